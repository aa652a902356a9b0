/- The reference's Mains, walked by hand. -/
import Derived.Test.YtaejmgdpnnhpmaaRefState
import Derived.Test.YtaejmgdpnnhpmaaFlexShareLaw
import Derived.Deep.DeepCutAuto
import Derived.Test.YtaejmgdpnnhpmaaMainsEq
namespace Go.Proofs.Ytaejmgdpnnhpmaa.QFlex
open Go.RowKit Go.Proofs.YtaejmgdpnnhpmaaW.PrintWords Go.Proofs.YtaejmgdpnnhpmaaW.PrintLast Go.Proofs.YtaejmgdpnnhpmaaW.PrintMore
attribute [local go_sem] max2_int min2_int max_two min_two max_three min_three max_four min_four
set_option linter.unusedVariables false
set_option linter.unusedSimpArgs false
abbrev B0_ : Array Bool := #[false, false, false, false, false, false, false, false, false, false, false, false]
abbrev B1_ : Array Bool := #[true, false, false, false, false, false, false, false, false, false, false, false]
abbrev B2_ : Array Bool := #[true, false, true, false, false, false, false, false, false, false, false, false]
abbrev B3_ : Array Bool := #[true, false, true, false, true, false, false, false, false, false, false, false]
abbrev B4_ : Array Bool := #[false, false, false, false, false, false, false, false, false, false, false, false, false, false, false, false, false, false, false, false, false, false, false, false, false]
abbrev B5_ : Array Bool := #[true, false, false, false, false, false, false, false, false, false, false, false, false, false, false, false, false, false, false, false, false, false, false, false, false]
abbrev B6_ : Array Bool := #[true, true, false, false, false, false, false, false, false, false, false, false, false, false, false, false, false, false, false, false, false, false, false, false, false]
abbrev B7_ : Array Bool := #[true, true, true, false, false, false, false, false, false, false, false, false, false, false, false, false, false, false, false, false, false, false, false, false, false]
abbrev B8_ : Array Bool := #[true, true, true, true, false, false, false, false, false, false, false, false, false, false, false, false, false, false, false, false, false, false, false, false, false]
abbrev B9_ : Array Bool := #[true, true, true, true, true, false, false, false, false, false, false, false, false, false, false, false, false, false, false, false, false, false, false, false, false]
abbrev B10_ : Array Bool := #[true, true, true, true, true, true, false, false, false, false, false, false, false, false, false, false, false, false, false, false, false, false, false, false, false]
abbrev B11_ : Array Bool := #[true, true, true, true, true, true, true, false, false, false, false, false, false, false, false, false, false, false, false, false, false, false, false, false, false]
abbrev B12_ : Array Bool := #[true, true, true, true, true, true, true, true, false, false, false, false, false, false, false, false, false, false, false, false, false, false, false, false, false]
abbrev B13_ : Array Bool := #[true, true, true, true, true, true, true, true, true, false, false, false, false, false, false, false, false, false, false, false, false, false, false, false, false]
abbrev B14_ : Array Bool := #[true, true, true, true, true, true, true, true, true, true, false, false, false, false, false, false, false, false, false, false, false, false, false, false, false]
abbrev B15_ : Array Bool := #[true, true, true, true, true, true, true, true, true, true, true, false, false, false, false, false, false, false, false, false, false, false, false, false, false]
abbrev B16_ : Array Bool := #[true, true, true, true, true, true, true, true, true, true, true, true, false, false, false, false, false, false, false, false, false, false, false, false, false]
abbrev B17_ : Array Bool := #[true, true, true, true, true, true, true, true, true, true, true, true, true, false, false, false, false, false, false, false, false, false, false, false, false]
abbrev B18_ : Array Bool := #[true, true, true, true, true, true, true, true, true, true, true, true, true, true, false, false, false, false, false, false, false, false, false, false, false]
abbrev B19_ : Array Bool := #[true, true, true, true, true, true, true, true, true, true, true, true, true, true, true, false, false, false, false, false, false, false, false, false, false]
abbrev B20_ : Array Bool := #[true, true, true, true, true, true, true, true, true, true, true, true, true, true, true, true, false, false, false, false, false, false, false, false, false]
abbrev B21_ : Array Bool := #[true, true, true, true, true, true, true, true, true, true, true, true, true, true, true, true, true, false, false, false, false, false, false, false, false]
abbrev B22_ : Array Bool := #[true, true, true, true, true, true, true, true, true, true, true, true, true, true, true, true, true, true, false, false, false, false, false, false, false]
abbrev B23_ : Array Bool := #[true, true, true, true, true, true, true, true, true, true, true, true, true, true, true, true, true, true, true, false, false, false, false, false, false]
abbrev B24_ : Array Bool := #[true, true, true, true, true, true, true, true, true, true, true, true, true, true, true, true, true, true, true, true, false, false, false, false, false]
abbrev B25_ : Array Bool := #[true, true, true, true, true, true, true, true, true, true, true, true, true, true, true, true, true, true, true, true, true, false, false, false, false]
abbrev B26_ : Array Bool := #[true, true, true, true, true, true, true, true, true, true, true, true, true, true, true, true, true, true, true, true, true, true, false, false, false]
abbrev B27_ : Array Bool := #[true, true, true, true, true, true, true, true, true, true, true, true, true, true, true, true, true, true, true, true, true, true, true, false, false]
abbrev B28_ : Array Bool := #[true, true, true, true, true, true, true, true, true, true, true, true, true, true, true, true, true, true, true, true, true, true, true, true, false]
abbrev B29_ : Array Bool := #[true, true, true, true, true, true, true, true, true, true, true, true, true, true, true, true, true, true, true, true, true, true, true, true, true]
abbrev B30_ : Array Bool := #[false, false, false, false, false, false, false, false, false, false]
abbrev B31_ : Array Bool := #[false, true, false, false, false, false, false, false, false, false]
abbrev B32_ : Array Bool := #[false, true, false, true, false, false, false, false, false, false]
abbrev B33_ : Array Bool := #[true, true, false, true, false, false, false, false, false, false]
abbrev B34_ : Array Bool := #[true, true, true, true, false, false, false, false, false, false]
abbrev B35_ : Array Bool := #[true, true, true, true, true, false, false, false, false, false]
abbrev B36_ : Array Bool := #[true, true, true, true, true, true, false, false, false, false]
abbrev B37_ : Array Bool := #[true, true, true, true, true, true, true, false, false, false]
abbrev B38_ : Array Bool := #[true, true, true, true, true, true, true, true, false, false]
abbrev B39_ : Array Bool := #[true, true, true, true, true, true, true, true, true, false]
abbrev B40_ : Array Bool := #[true, true, true, true, true, true, true, true, true, true]
abbrev B41_ : Array Bool := #[true, false, false, false, false, false, false, false, false, false]
abbrev B42_ : Array Bool := #[true, false, true, false, false, false, false, false, false, false]
abbrev B43_ : Array Bool := #[true, false, true, true, false, false, false, false, false, false]
abbrev B44_ : Array Bool := #[true, false, true, true, true, false, false, false, false, false]
abbrev B45_ : Array Bool := #[true, false, true, true, true, true, false, false, false, false]
abbrev B46_ : Array Bool := #[false, true, true, false, false, false, false, false, false, false]
abbrev B47_ : Array Bool := #[false, true, true, true, false, false, false, false, false, false]
abbrev B48_ : Array Bool := #[false, true, true, true, false, true, false, false, false, false]
abbrev B49_ : Array Bool := #[true, true, true, true, false, true, false, false, false, false]
abbrev B50_ : Array Bool := #[false, false, false, false, false, false, false, false, false, false, false]
abbrev B51_ : Array Bool := #[true, false, false, false, false, false, false, false, false, false, false]
abbrev B52_ : Array Bool := #[true, true, false, false, false, false, false, false, false, false, false]
abbrev B53_ : Array Bool := #[true, true, false, true, false, false, false, false, false, false, false]
abbrev B54_ : Array Bool := #[true, true, false, true, false, false, true, false, false, false, false]
abbrev B55_ : Array Bool := #[true, true, true, true, false, false, true, false, false, false, false]
abbrev B56_ : Array Bool := #[true, true, true, true, true, false, true, false, false, false, false]
abbrev B57_ : Array Bool := #[true, true, true, true, true, true, true, false, false, false, false]
abbrev B58_ : Array Bool := #[true, true, true, true, true, true, true, true, false, false, false]
abbrev B59_ : Array Bool := #[true, true, true, true, true, true, true, true, true, false, false]
abbrev B60_ : Array Bool := #[true, true, true, true, true, true, true, true, true, true, false]
abbrev B61_ : Array Bool := #[true, true, true, true, true, true, true, true, true, true, true]
abbrev B62_ : Array Bool := #[false, false, false, false, false, false, false, false, false, false, false, false, false, false, false, false, false, false, false, false, false, false, false, false, false, false, false, false, false, false, false, false, false, false]
abbrev B63_ : Array Bool := #[false, true, false, false, false, false, false, false, false, false, false, false, false, false, false, false, false, false, false, false, false, false, false, false, false, false, false, false, false, false, false, false, false, false]
abbrev B64_ : Array Bool := #[false, true, false, true, false, false, false, false, false, false, false, false, false, false, false, false, false, false, false, false, false, false, false, false, false, false, false, false, false, false, false, false, false, false]
abbrev B65_ : Array Bool := #[true, true, false, true, false, false, false, false, false, false, false, false, false, false, false, false, false, false, false, false, false, false, false, false, false, false, false, false, false, false, false, false, false, false]
abbrev B66_ : Array Bool := #[true, true, true, true, false, false, false, false, false, false, false, false, false, false, false, false, false, false, false, false, false, false, false, false, false, false, false, false, false, false, false, false, false, false]
abbrev B67_ : Array Bool := #[true, true, true, true, true, false, false, false, false, false, false, false, false, false, false, false, false, false, false, false, false, false, false, false, false, false, false, false, false, false, false, false, false, false]
abbrev B68_ : Array Bool := #[true, true, true, true, true, true, false, false, false, false, false, false, false, false, false, false, false, false, false, false, false, false, false, false, false, false, false, false, false, false, false, false, false, false]
abbrev B69_ : Array Bool := #[true, true, true, true, true, true, true, false, false, false, false, false, false, false, false, false, false, false, false, false, false, false, false, false, false, false, false, false, false, false, false, false, false, false]
abbrev B70_ : Array Bool := #[true, true, true, true, true, true, true, true, false, false, false, false, false, false, false, false, false, false, false, false, false, false, false, false, false, false, false, false, false, false, false, false, false, false]
abbrev B71_ : Array Bool := #[true, true, true, true, true, true, true, true, true, false, false, false, false, false, false, false, false, false, false, false, false, false, false, false, false, false, false, false, false, false, false, false, false, false]
abbrev B72_ : Array Bool := #[true, true, true, true, true, true, true, true, true, true, false, false, false, false, false, false, false, false, false, false, false, false, false, false, false, false, false, false, false, false, false, false, false, false]
abbrev B73_ : Array Bool := #[true, true, true, true, true, true, true, true, true, true, true, false, false, false, false, false, false, false, false, false, false, false, false, false, false, false, false, false, false, false, false, false, false, false]
abbrev B74_ : Array Bool := #[true, true, true, true, true, true, true, true, true, true, true, true, false, false, false, false, false, false, false, false, false, false, false, false, false, false, false, false, false, false, false, false, false, false]
abbrev B75_ : Array Bool := #[true, true, true, true, true, true, true, true, true, true, true, true, true, false, false, false, false, false, false, false, false, false, false, false, false, false, false, false, false, false, false, false, false, false]
abbrev B76_ : Array Bool := #[true, true, true, true, true, true, true, true, true, true, true, true, true, true, false, false, false, false, false, false, false, false, false, false, false, false, false, false, false, false, false, false, false, false]
abbrev B77_ : Array Bool := #[true, true, true, true, true, true, true, true, true, true, true, true, true, true, true, false, false, false, false, false, false, false, false, false, false, false, false, false, false, false, false, false, false, false]
abbrev B78_ : Array Bool := #[true, true, true, true, true, true, true, true, true, true, true, true, true, true, true, true, false, false, false, false, false, false, false, false, false, false, false, false, false, false, false, false, false, false]
abbrev B79_ : Array Bool := #[true, true, true, true, true, true, true, true, true, true, true, true, true, true, true, true, true, false, false, false, false, false, false, false, false, false, false, false, false, false, false, false, false, false]
abbrev B80_ : Array Bool := #[true, true, true, true, true, true, true, true, true, true, true, true, true, true, true, true, true, true, false, false, false, false, false, false, false, false, false, false, false, false, false, false, false, false]
abbrev B81_ : Array Bool := #[true, true, true, true, true, true, true, true, true, true, true, true, true, true, true, true, true, true, true, false, false, false, false, false, false, false, false, false, false, false, false, false, false, false]
abbrev B82_ : Array Bool := #[true, true, true, true, true, true, true, true, true, true, true, true, true, true, true, true, true, true, true, true, false, false, false, false, false, false, false, false, false, false, false, false, false, false]
abbrev B83_ : Array Bool := #[true, true, true, true, true, true, true, true, true, true, true, true, true, true, true, true, true, true, true, true, true, false, false, false, false, false, false, false, false, false, false, false, false, false]
abbrev B84_ : Array Bool := #[true, true, true, true, true, true, true, true, true, true, true, true, true, true, true, true, true, true, true, true, true, true, false, false, false, false, false, false, false, false, false, false, false, false]
abbrev B85_ : Array Bool := #[true, true, true, true, true, true, true, true, true, true, true, true, true, true, true, true, true, true, true, true, true, true, true, false, false, false, false, false, false, false, false, false, false, false]
abbrev B86_ : Array Bool := #[true, true, true, true, true, true, true, true, true, true, true, true, true, true, true, true, true, true, true, true, true, true, true, true, false, false, false, false, false, false, false, false, false, false]
abbrev B87_ : Array Bool := #[true, true, true, true, true, true, true, true, true, true, true, true, true, true, true, true, true, true, true, true, true, true, true, true, true, false, false, false, false, false, false, false, false, false]
abbrev B88_ : Array Bool := #[true, true, true, true, true, true, true, true, true, true, true, true, true, true, true, true, true, true, true, true, true, true, true, true, true, true, false, false, false, false, false, false, false, false]
abbrev B89_ : Array Bool := #[true, true, true, true, true, true, true, true, true, true, true, true, true, true, true, true, true, true, true, true, true, true, true, true, true, true, true, false, false, false, false, false, false, false]
abbrev B90_ : Array Bool := #[true, true, true, true, true, true, true, true, true, true, true, true, true, true, true, true, true, true, true, true, true, true, true, true, true, true, true, true, false, false, false, false, false, false]
abbrev B91_ : Array Bool := #[true, true, true, true, true, true, true, true, true, true, true, true, true, true, true, true, true, true, true, true, true, true, true, true, true, true, true, true, true, false, false, false, false, false]
abbrev B92_ : Array Bool := #[true, true, true, true, true, true, true, true, true, true, true, true, true, true, true, true, true, true, true, true, true, true, true, true, true, true, true, true, true, true, false, false, false, false]
abbrev B93_ : Array Bool := #[true, true, true, true, true, true, true, true, true, true, true, true, true, true, true, true, true, true, true, true, true, true, true, true, true, true, true, true, true, true, true, false, false, false]
abbrev B94_ : Array Bool := #[true, true, true, true, true, true, true, true, true, true, true, true, true, true, true, true, true, true, true, true, true, true, true, true, true, true, true, true, true, true, true, true, false, false]
abbrev B95_ : Array Bool := #[true, true, true, true, true, true, true, true, true, true, true, true, true, true, true, true, true, true, true, true, true, true, true, true, true, true, true, true, true, true, true, true, true, false]
abbrev B96_ : Array Bool := #[true, true, true, true, true, true, true, true, true, true, true, true, true, true, true, true, true, true, true, true, true, true, true, true, true, true, true, true, true, true, true, true, true, true]
theorem q1_ {α : Type} {xs : List α} {i : Nat} {a : α} : xs.toArray.setIfInBounds i a = (xs.set i a).toArray := List.setIfInBounds_toArray ..
theorem q2_ {α : Type} {a : α} {l : List α} {b : α} : (a :: l).set 0 b = b :: l := rfl
theorem q3_ {α : Type} {a : α} {l : List α} {n : Nat} {b : α} : (a :: l).set (n + 1) b = a :: l.set n b := rfl
theorem store_cell {P : Program} {oi : Oper} {a : Act} {w : World} (ty : TypeId) (x y : Operand) (g : Nat) (A : Option Addr) (n c : Nat) (cs : Array Value) (t : TypeId) (ho : oi.op = .store ty x y) (hx : a.eval x = .pointer (some ⟨g, 0, none⟩)) (hy : a.eval y = .slice A n c)
 (hb : w.heap[g]? = some (.cells cs t (0, 0))) (hs : 0 < cs.size) (hi : (P.info? ty).map (·.size) = some 1) : (execOp a.eval oi).run P w = .ok .skip (w.setCell ⟨g, 0, none⟩ (.slice A n c)) := by
 obtain ⟨i, hi1, hi2⟩ := Option.map_eq_some_iff.1 hi
 have hc : w.cell? ⟨g, 0, none⟩ = some cs[0] := (blk_cell hb 0).trans (Array.getElem?_eq_getElem hs)
 have hf := blk_frozen hb 0
 unfold execOp
 simp only [ho, hx, hy]
 go_simp
 simp [sizeOf, typeInfo, hi1, hi2, hc, hf, Result.andThen]
theorem blk_allocd {w : World} {g : Nat} {o : Obj} (h : w.heap[g]? = some o) (p : Obj) : (w.alloc p).heap[g]? = some o := blk_below h (below_alloc (Below.refl _ _) p)
theorem rcut_calls (a : Int) (w : World) : Calls Try.prog 21 #[.int .i64 a] w fun e w' => e = .returned (.int .i64 (cut a)) ∧ Below w.heap.size w w' :=
 (clerestoryref3_Cut.calls a _ w (cut_b a)).mono (by rintro e w' ⟨rfl, hd⟩; exact ⟨rfl, hd.below⟩)
theorem rpart_calls (a b c : Int) (w : World) : Calls Try.prog 48 #[.int .i64 a, .int .i64 b, .int .i64 c] w fun e w' => e = .returned (.int .i64 (part a b c)) ∧ Below w.heap.size w w' :=
 (clerestoryref3_Part.calls a b c _ w (part_b a b c)).mono (by rintro e w' ⟨rfl, hd⟩; exact ⟨rfl, hd.below⟩)
theorem rbetw_calls (a b c : Int) (w : World) : Calls Try.prog 78 #[.int .i64 a, .int .i64 b, .int .i64 c] w fun e w' => e = .returned (.int .i64 (betw a b c)) ∧ Below w.heap.size w w' :=
 (clerestoryref3_Between.calls 2 a b c _ w (between_f a b c 2 (by decide))).mono (by rintro e w' ⟨rfl, hd⟩; exact ⟨rfl, hd.below⟩)
theorem rlong_calls (a0 a1 a2 a3 a4 a5 : Int) (w : World) : Calls Try.prog 74 #[.agg #[.int .i64 a0, .int .i64 a1, .int .i64 a2, .int .i64 a3, .int .i64 a4, .int .i64 a5]] w fun e w' => e = .returned (.int .i64 (longOf ⟨a0, a1, a2, a3, a4, a5⟩)) ∧ Below w.heap.size w w' :=
 clerestoryref3_Long.calls 2 a0 a1 a2 a3 a4 a5 _ w (long_f ⟨a0, a1, a2, a3, a4, a5⟩ 2 (by decide))
theorem rflex_calls (a0 a1 a2 a3 a4 a5 : Int) (y : S91) (hy : flexible ⟨a0, a1, a2, a3, a4, a5⟩ = y) (w : World) : Calls Try.prog 73 #[.agg #[.int .i64 a0, .int .i64 a1, .int .i64 a2, .int .i64 a3, .int .i64 a4, .int .i64 a5]] w fun e w' => e = .returned (.agg #[.int .i64 y.f0, .int .i64 y.f1, .int .i64 y.f2, .int .i64 y.f3, .int .i64 y.f4, .int .i64 y.f5]) ∧ Below w.heap.size w w' := by
 subst hy
 exact clerestoryref3_Flexible.calls a0 a1 a2 a3 a4 a5 _ _ _ _ _ _ w (flexible_f ⟨a0, a1, a2, a3, a4, a5⟩)
theorem sets_other {g b : Nat} {ob : Obj} {w : World} (h : w.heap[b]? = some ob) (hne : b ≠ g) (vs : List Value) (q : Nat) : (w.setCells g q vs).heap[b]? = some ob := (sets_far hne vs q w).trans h
def refMains.T2 : Bool × List (List Nat × List Nat) := (true, [([], []), ([0, 0], [0]), ([], []), ([2, 2], [2]), ([], []), ([4, 4], [4]), ([], []), ([], []), ([], []), ([6, 1, 0, 1, 6, 7, 8], [1, 6]), ([7, 3, 9, 0, 1, 2, 3, 6, 7, 8, 9], [3, 7]), ([8, 5, 10, 0, 1, 2, 3, 4, 5, 6, 7, 8, 9, 10], [5, 8])])
def refMains.B2 : List Nat := [0, 1, 0, 4, 0, 16, 0, 0, 0, 451, 975, 2047]
theorem refMains.tab2 : rtab .any (opsOf Try.f29 2) = refMains.T2 := by kernel_rfl
theorem refMains.bits2 : waitsOk refMains.T2.2 refMains.B2 = true := by kernel_rfl
set_option maxHeartbeats 80000000 in
set_option maxRecDepth 100000 in
theorem refmains_walk (k_ : Nat) (A0 : Option Addr) (c0 : Nat) (l0 : List S91) (room gap : Int) (w : World) (hr0 : Kd.C k91 w A0 l0.length l0) (hc0 : l0.length ≤ c0) (hl : l0.length ≤ 50) (hk : 50 < k_) (r : List Int)
 (hr : (let X := l0.map flexible; let n := l0.length; let L := leftN (roomOf room gap n) l0 n; let gr := decide (0 < wrap64 (L - longN l0 n)); loopR gr L X n (freeN L X (isN gr X n n) (stN gr X n n) n) k_ (isN gr X n n) (stN gr X n n)) = some r) :
 Calls Try.prog 29 #[.int .i64 room, .int .i64 gap, .slice A0 l0.length c0] w fun e w' => ∃ v : Value, e = .returned v ∧ Kd.R (Kd.int .i64) 3 w' w.heap.size (fun _ => True) v (r.map fun x => mx 0 x) ∧ Below w.heap.size w w' := by
 have HR0 := Aside0.mk hr
 clear hr
 have HC := Aside0.mk hr0
 have HB := Aside0.mk (Below.refl w.heap.size w)
 obtain ⟨n, hn⟩ : ∃ n, l0.length = n := ⟨_, rfl⟩
 rw [hn] at HC hc0 hl HR0 ⊢
 have HN := Aside0.mk hn
 have HL := Aside0.mk hl
 have HK := Aside0.mk hk
 have HC0 := Aside0.mk hc0
 clear hr0 hk hc0 hn
 go_enter Try.func29, Try.ntmps29
 go_upto_region 2 with fail
 refine start_ (n := 12) (S := fun w' => True) (ds := []) B0_ (by kernel_rfl) rfl rfl trivial (fun hHeld => ?_)
 refine with_tabW refMains.tab2 refMains.bits2 (fun HT_ HW_ => ?_)
 have HB2 : Aside0 (Below w.heap.size w w.drew) := ⟨below_drew1b (Below.refl _ _)⟩
 clear HB
 generalize hw0 : w.drew = wd at HB2 hHeld ⊢
 refine pure_ (i := 0) (N := some 41) (v := ?_) (a' := ?_) B1_ rfl rfl (any_of HT_.out (by kernel_rfl)) (fun _ _ _ h => h) (Or.inl ⟨by rfl, ?_⟩) ?_ ?_
 rotate_left; · intro w'; go_simp; with_reducible rfl
 rotate_left; · simp only [Act.put, q1_, q2_, q3_, i64_w, i32_w]; rfl
 refine pure_ (i := 2) (N := some 43) (v := ?_) (a' := ?_) B2_ rfl rfl (any_of HT_.out (by kernel_rfl)) (fun _ _ _ h => h) (Or.inl ⟨by rfl, ?_⟩) ?_ ?_
 rotate_left; · intro w'; go_simp; with_reducible rfl
 rotate_left; · simp only [Act.put, q1_, q2_, q3_, i64_w, i32_w]; rfl
 refine pure_ (i := 4) (N := some 45) (v := ?_) (a' := ?_) B3_ rfl rfl (any_of HT_.out (by kernel_rfl)) (fun _ _ _ h => h) (Or.inl ⟨by rfl, ?_⟩) ?_ ?_
 rotate_left; · intro w'; go_simp; with_reducible rfl
 rotate_left; · simp only [Act.put, q1_, q2_, q3_, i64_w, i32_w]; rfl
 refine inv_at [1, 3, 5, 6, 7, 8, 9, 10, 11] (fun a0_ b a w' => ∃ (v1 : Value) (g6 : Nat) (v3 : Value) (g7 : Nat) (v5 : Value) (g8 : Nat) (m6_ : Value) (m7_ : Value) (m8_ : Value), a = putSel a0_ b [(1, 42, v1), (3, 44, v3), (5, 46, v5), (6, 8, m6_), (7, 9, m7_), (8, 10, m8_)] ∧ (Below w.heap.size w w') ∧ (b 1 = true → Kd.R k91 91 w' w.heap.size (fun _ => True) v1 (List.replicate n z91)) ∧ (b 6 = true → b 9 = false → w'.heap[g6]? = some (.cells #[.slice none 0 0] 49 (0, 0))) ∧ (b 9 = true → w'.heap[g6]? = some (.cells #[v1] 49 (0, 0))) ∧ (b 6 = true → w.heap.size ≤ g6) ∧ (b 3 = true → Kd.R (Kd.int .i64) 3 w' w.heap.size (fun _ => True) v3 (List.replicate n 0)) ∧ (b 7 = true → b 10 = false → w'.heap[g7]? = some (.cells #[.slice none 0 0] 51 (0, 0))) ∧ (b 10 = true → w'.heap[g7]? = some (.cells #[v3] 51 (0, 0))) ∧ (b 7 = true → w.heap.size ≤ g7) ∧ (b 5 = true → Kd.R Kd.bool 4 w' w.heap.size (fun _ => True) v5 (List.replicate n false)) ∧ (b 8 = true → b 11 = false → w'.heap[g8]? = some (.cells #[.slice none 0 0] 105 (0, 0))) ∧ (b 11 = true → w'.heap[g8]? = some (.cells #[v5] 105 (0, 0))) ∧ (b 8 = true → w.heap.size ≤ g8) ∧ (b 6 = true → (m6_ : Value) = .pointer (some ⟨g6, 0, none⟩)) ∧ (b 7 = true → (m7_ : Value) = .pointer (some ⟨g7, 0, none⟩)) ∧ (b 8 = true → (m8_ : Value) = .pointer (some ⟨g8, 0, none⟩))) HT_.out HW_.out (by kernel_rfl) (by kernel_rfl) ?_ ?_ ?_
 ·
  exact ⟨.bool false, 0, .bool false, 0, .bool false, 0, .bool false, .bool false, .bool false, by simp only [putSel, Bool.false_eq_true, if_false], HB2.out, fun h_ => absurd h_ (by decide), fun h_ => absurd h_ (by decide), fun h_ => absurd h_ (by decide), fun h_ => absurd h_ (by decide), fun h_ => absurd h_ (by decide), fun h_ => absurd h_ (by decide), fun h_ => absurd h_ (by decide), fun h_ => absurd h_ (by decide), fun h_ => absurd h_ (by decide), fun h_ => absurd h_ (by decide), fun h_ => absurd h_ (by decide), fun h_ => absurd h_ (by decide), fun h_ => absurd h_ (by decide), fun h_ => absurd h_ (by decide), fun h_ => absurd h_ (by decide)⟩
 ·
  skip
  clear HB2
  refine steps_cons ?_ ?_
  ·
   rintro b a w' ⟨v1, g6, v3, g7, v5, g8, m6_, m7_, m8_, ha, Q_HB2, Q_RR1, Q_CC6, Q_DD6, Q_GG6, Q_RR3, Q_CC7, Q_DD7, Q_GG7, Q_RR5, Q_CC8, Q_DD8, Q_GG8, Q_X6_, Q_X7_, Q_X8_⟩ hb_ hon hoff
   refine ⟨_, rfl, fun K hK => ?_⟩
   have e41 : a.tmps[41]? = some (.int .i64 (n : Int)) := by rw [ha]; exact (putSel_off rfl).trans rfl
   replace ha := Aside0.mk ha
   have HB2 := Aside0.mk Q_HB2
   refine Kd.R_make_step k91 _ 91 (by rfl) (N := 42) rfl 49 _ _ rfl (n : Int) (eval_of e41) (eval_of e41) Try.underlying49 (.agg #[(.int .i64 0), (.int .i64 0), (.int .i64 0), (.int .i64 0), (.int .i64 0), (.int .i64 0)]) 48 info91 rfl (by decide) (by omega) z91 (ok := fun _ => True) (okp := fun _ => True) (k91_mkM _ _ _ z91) (fun _ hk => hk) trivial (by omega) (by omega) (Below.refl _ _) (Nat.le_refl _) ?_
   intro vn w2 ho hb hg_ hnew_
   simp only [Int.toNat_natCast] at ho
   refine hK.out _ _ ⟨vn, g6, v3, g7, v5, g8, m6_, m7_, m8_, (by rw [ha.out]; exact putSel_upk 0 hb_ rfl rfl rfl), below_step HB2.out hb, fun _ => Kd.R_lower ho HB2.out.size, fun h0_ h1_ => blk_below (Q_CC6 h0_ h1_) hb, fun h0_ => absurd ((hoff 9 (by kernel_rfl)).symm.trans h0_) (by decide), fun h0_ => (Q_GG6 h0_), fun h0_ => Kd.R_below (Q_RR3 h0_) hb, fun h0_ h1_ => blk_below (Q_CC7 h0_ h1_) hb, fun h0_ => absurd ((hoff 10 (by kernel_rfl)).symm.trans h0_) (by decide), fun h0_ => (Q_GG7 h0_), fun h0_ => Kd.R_below (Q_RR5 h0_) hb, fun h0_ h1_ => blk_below (Q_CC8 h0_ h1_) hb, fun h0_ => absurd ((hoff 11 (by kernel_rfl)).symm.trans h0_) (by decide), fun h0_ => (Q_GG8 h0_), Q_X6_, Q_X7_, Q_X8_⟩
  refine steps_cons ?_ ?_
  ·
   rintro b a w' ⟨v1, g6, v3, g7, v5, g8, m6_, m7_, m8_, ha, Q_HB2, Q_RR1, Q_CC6, Q_DD6, Q_GG6, Q_RR3, Q_CC7, Q_DD7, Q_GG7, Q_RR5, Q_CC8, Q_DD8, Q_GG8, Q_X6_, Q_X7_, Q_X8_⟩ hb_ hon hoff
   refine ⟨_, rfl, fun K hK => ?_⟩
   have e43 : a.tmps[43]? = some (.int .i64 (n : Int)) := by rw [ha]; exact (putSel_off rfl).trans rfl
   replace ha := Aside0.mk ha
   have HB2 := Aside0.mk Q_HB2
   refine Kd.R_make_step (Kd.int .i64) _ 3 (by rfl) (N := 44) rfl 51 _ _ rfl (n : Int) (eval_of e43) (eval_of e43) Try.underlying51 (.int .i64 0) 8 info3 rfl (by decide) (by omega) 0 (ok := fun _ => True) (okp := fun _ => True) rfl (fun _ hk => hk) trivial (by omega) (by omega) (Below.refl _ _) (Nat.le_refl _) ?_
   intro vn w2 ho hb hg_ hnew_
   simp only [Int.toNat_natCast] at ho
   refine hK.out _ _ ⟨v1, g6, vn, g7, v5, g8, m6_, m7_, m8_, (by rw [ha.out]; exact putSel_upk 1 hb_ rfl rfl rfl), below_step HB2.out hb, fun h0_ => Kd.R_below (Q_RR1 h0_) hb, fun h0_ h1_ => blk_below (Q_CC6 h0_ h1_) hb, fun h0_ => blk_below (Q_DD6 h0_) hb, fun h0_ => (Q_GG6 h0_), fun _ => Kd.R_lower ho HB2.out.size, fun h0_ h1_ => blk_below (Q_CC7 h0_ h1_) hb, fun h0_ => absurd ((hoff 10 (by kernel_rfl)).symm.trans h0_) (by decide), fun h0_ => (Q_GG7 h0_), fun h0_ => Kd.R_below (Q_RR5 h0_) hb, fun h0_ h1_ => blk_below (Q_CC8 h0_ h1_) hb, fun h0_ => absurd ((hoff 11 (by kernel_rfl)).symm.trans h0_) (by decide), fun h0_ => (Q_GG8 h0_), Q_X6_, Q_X7_, Q_X8_⟩
  refine steps_cons ?_ ?_
  ·
   rintro b a w' ⟨v1, g6, v3, g7, v5, g8, m6_, m7_, m8_, ha, Q_HB2, Q_RR1, Q_CC6, Q_DD6, Q_GG6, Q_RR3, Q_CC7, Q_DD7, Q_GG7, Q_RR5, Q_CC8, Q_DD8, Q_GG8, Q_X6_, Q_X7_, Q_X8_⟩ hb_ hon hoff
   refine ⟨_, rfl, fun K hK => ?_⟩
   have e45 : a.tmps[45]? = some (.int .i64 (n : Int)) := by rw [ha]; exact (putSel_off rfl).trans rfl
   replace ha := Aside0.mk ha
   have HB2 := Aside0.mk Q_HB2
   refine Kd.R_make_step Kd.bool _ 4 (by rfl) (N := 46) rfl 105 _ _ rfl (n : Int) (eval_of e45) (eval_of e45) Try.underlying105 (.bool false) 1 (by kernel_rfl) rfl (by decide) (by omega) false (ok := fun _ => True) (okp := fun _ => True) rfl (fun _ hk => hk) trivial (by omega) (by omega) (Below.refl _ _) (Nat.le_refl _) ?_
   intro vn w2 ho hb hg_ hnew_
   simp only [Int.toNat_natCast] at ho
   refine hK.out _ _ ⟨v1, g6, v3, g7, vn, g8, m6_, m7_, m8_, (by rw [ha.out]; exact putSel_upk 2 hb_ rfl rfl rfl), below_step HB2.out hb, fun h0_ => Kd.R_below (Q_RR1 h0_) hb, fun h0_ h1_ => blk_below (Q_CC6 h0_ h1_) hb, fun h0_ => blk_below (Q_DD6 h0_) hb, fun h0_ => (Q_GG6 h0_), fun h0_ => Kd.R_below (Q_RR3 h0_) hb, fun h0_ h1_ => blk_below (Q_CC7 h0_ h1_) hb, fun h0_ => blk_below (Q_DD7 h0_) hb, fun h0_ => (Q_GG7 h0_), fun _ => Kd.R_lower ho HB2.out.size, fun h0_ h1_ => blk_below (Q_CC8 h0_ h1_) hb, fun h0_ => absurd ((hoff 11 (by kernel_rfl)).symm.trans h0_) (by decide), fun h0_ => (Q_GG8 h0_), Q_X6_, Q_X7_, Q_X8_⟩
  refine steps_cons ?_ ?_
  ·
   rintro b a w' ⟨v1, g6, v3, g7, v5, g8, m6_, m7_, m8_, ha, Q_HB2, Q_RR1, Q_CC6, Q_DD6, Q_GG6, Q_RR3, Q_CC7, Q_DD7, Q_GG7, Q_RR5, Q_CC8, Q_DD8, Q_GG8, Q_X6_, Q_X7_, Q_X8_⟩ hb_ hon hoff
   refine ⟨_, rfl, fun K hK => ?_⟩
   replace ha := Aside0.mk ha
   have HB2 := Aside0.mk Q_HB2
   refine value_ (w1 := w'.alloc (.cells #[.slice none 0 0] 49 (0, 0))) (v := .pointer (some ⟨w'.heap.size, 0, none⟩)) (by rfl) rfl ?_ ?_
   ·
    go_simp
   refine hK.out _ _ ⟨v1, w'.heap.size, v3, g7, v5, g8, (.pointer (some ⟨w'.heap.size, 0, none⟩)), m7_, m8_, (by rw [ha.out]; exact putSel_upk 3 hb_ rfl rfl rfl), below_alloc HB2.out _, fun h0_ => Kd.R_below (Q_RR1 h0_) (below_alloc (Below.refl _ _) _), fun _ _ => blk_new w' _, fun h0_ => absurd ((hoff 9 (by kernel_rfl)).symm.trans h0_) (by decide), fun _ => HB2.out.size, fun h0_ => Kd.R_below (Q_RR3 h0_) (below_alloc (Below.refl _ _) _), fun h0_ h1_ => blk_allocd (Q_CC7 h0_ h1_) _, fun h0_ => absurd ((hoff 10 (by kernel_rfl)).symm.trans h0_) (by decide), fun h0_ => (Q_GG7 h0_), fun h0_ => Kd.R_below (Q_RR5 h0_) (below_alloc (Below.refl _ _) _), fun h0_ h1_ => blk_allocd (Q_CC8 h0_ h1_) _, fun h0_ => absurd ((hoff 11 (by kernel_rfl)).symm.trans h0_) (by decide), fun h0_ => (Q_GG8 h0_), fun _ => rfl, Q_X7_, Q_X8_⟩
  refine steps_cons ?_ ?_
  ·
   rintro b a w' ⟨v1, g6, v3, g7, v5, g8, m6_, m7_, m8_, ha, Q_HB2, Q_RR1, Q_CC6, Q_DD6, Q_GG6, Q_RR3, Q_CC7, Q_DD7, Q_GG7, Q_RR5, Q_CC8, Q_DD8, Q_GG8, Q_X6_, Q_X7_, Q_X8_⟩ hb_ hon hoff
   refine ⟨_, rfl, fun K hK => ?_⟩
   replace ha := Aside0.mk ha
   have HB2 := Aside0.mk Q_HB2
   refine value_ (w1 := w'.alloc (.cells #[.slice none 0 0] 51 (0, 0))) (v := .pointer (some ⟨w'.heap.size, 0, none⟩)) (by rfl) rfl ?_ ?_
   ·
    go_simp
   refine hK.out _ _ ⟨v1, g6, v3, w'.heap.size, v5, g8, m6_, (.pointer (some ⟨w'.heap.size, 0, none⟩)), m8_, (by rw [ha.out]; exact putSel_upk 4 hb_ rfl rfl rfl), below_alloc HB2.out _, fun h0_ => Kd.R_below (Q_RR1 h0_) (below_alloc (Below.refl _ _) _), fun h0_ h1_ => blk_allocd (Q_CC6 h0_ h1_) _, fun h0_ => absurd ((hoff 9 (by kernel_rfl)).symm.trans h0_) (by decide), fun h0_ => (Q_GG6 h0_), fun h0_ => Kd.R_below (Q_RR3 h0_) (below_alloc (Below.refl _ _) _), fun _ _ => blk_new w' _, fun h0_ => absurd ((hoff 10 (by kernel_rfl)).symm.trans h0_) (by decide), fun _ => HB2.out.size, fun h0_ => Kd.R_below (Q_RR5 h0_) (below_alloc (Below.refl _ _) _), fun h0_ h1_ => blk_allocd (Q_CC8 h0_ h1_) _, fun h0_ => absurd ((hoff 11 (by kernel_rfl)).symm.trans h0_) (by decide), fun h0_ => (Q_GG8 h0_), Q_X6_, fun _ => rfl, Q_X8_⟩
  refine steps_cons ?_ ?_
  ·
   rintro b a w' ⟨v1, g6, v3, g7, v5, g8, m6_, m7_, m8_, ha, Q_HB2, Q_RR1, Q_CC6, Q_DD6, Q_GG6, Q_RR3, Q_CC7, Q_DD7, Q_GG7, Q_RR5, Q_CC8, Q_DD8, Q_GG8, Q_X6_, Q_X7_, Q_X8_⟩ hb_ hon hoff
   refine ⟨_, rfl, fun K hK => ?_⟩
   replace ha := Aside0.mk ha
   have HB2 := Aside0.mk Q_HB2
   refine value_ (w1 := w'.alloc (.cells #[.slice none 0 0] 105 (0, 0))) (v := .pointer (some ⟨w'.heap.size, 0, none⟩)) (by rfl) rfl ?_ ?_
   ·
    go_simp
   refine hK.out _ _ ⟨v1, g6, v3, g7, v5, w'.heap.size, m6_, m7_, (.pointer (some ⟨w'.heap.size, 0, none⟩)), (by rw [ha.out]; exact putSel_upk 5 hb_ rfl rfl rfl), below_alloc HB2.out _, fun h0_ => Kd.R_below (Q_RR1 h0_) (below_alloc (Below.refl _ _) _), fun h0_ h1_ => blk_allocd (Q_CC6 h0_ h1_) _, fun h0_ => absurd ((hoff 9 (by kernel_rfl)).symm.trans h0_) (by decide), fun h0_ => (Q_GG6 h0_), fun h0_ => Kd.R_below (Q_RR3 h0_) (below_alloc (Below.refl _ _) _), fun h0_ h1_ => blk_allocd (Q_CC7 h0_ h1_) _, fun h0_ => absurd ((hoff 10 (by kernel_rfl)).symm.trans h0_) (by decide), fun h0_ => (Q_GG7 h0_), fun h0_ => Kd.R_below (Q_RR5 h0_) (below_alloc (Below.refl _ _) _), fun _ _ => blk_new w' _, fun h0_ => absurd ((hoff 11 (by kernel_rfl)).symm.trans h0_) (by decide), fun _ => HB2.out.size, Q_X6_, Q_X7_, fun _ => rfl⟩
  refine steps_cons ?_ ?_
  ·
   rintro b a w' ⟨v1, g6, v3, g7, v5, g8, m6_, m7_, m8_, ha, Q_HB2, Q_RR1, Q_CC6, Q_DD6, Q_GG6, Q_RR3, Q_CC7, Q_DD7, Q_GG7, Q_RR5, Q_CC8, Q_DD8, Q_GG8, Q_X6_, Q_X7_, Q_X8_⟩ hb_ hon hoff
   refine ⟨_, rfl, fun K hK => ?_⟩
   have e8 : a.tmps[8]? = some (m6_) := by rw [ha]; exact putSel_on (e := (6, 8, m6_)) 3 rfl rfl (hon 6 (by kernel_rfl)) rfl
   rw [Q_X6_ (hon 6 (by kernel_rfl))] at e8
   have e42 : a.tmps[42]? = some (v1) := by rw [ha]; exact putSel_on (e := (1, 42, v1)) 0 rfl rfl (hon 1 (by kernel_rfl)) rfl
   replace ha := Aside0.mk ha
   have HB2 := Aside0.mk Q_HB2
   have RR1 := Aside0.mk (Q_RR1 (hon 1 (by kernel_rfl)))
   have CC6 := Aside0.mk (Q_CC6 (hon 6 (by kernel_rfl)) hb_)
   have GG6 := Aside0.mk (Q_GG6 (hon 6 (by kernel_rfl)))
   have CC7 := Aside0.mk (Q_CC7 (hon 7 (by kernel_rfl)) (hoff 10 (by kernel_rfl)))
   have GG7 := Aside0.mk (Q_GG7 (hon 7 (by kernel_rfl)))
   have CC8 := Aside0.mk (Q_CC8 (hon 8 (by kernel_rfl)) (hoff 11 (by kernel_rfl)))
   have GG8 := Aside0.mk (Q_GG8 (hon 8 (by kernel_rfl)))
   obtain ⟨Av_, cv_, hv_⟩ := Kd.R_slice RR1.out
   rw [List.length_replicate] at hv_
   subst hv_
   refine skip_ (w1 := w'.setCell ⟨g6, 0, none⟩ (.slice Av_ n cv_)) (by rfl) rfl (store_cell 49 (.tmp 8) (.tmp 42) g6 Av_ n cv_ _ _ rfl (eval_of e8) (eval_of e42) CC6.out (by decide) (by kernel_rfl)) ?_
   refine hK.out _ _ ⟨(.slice Av_ n cv_), g6, v3, g7, v5, g8, m6_, m7_, m8_, (by rw [ha.out]; exact putSel_none (v := undef) rfl), HB2.out.setCell (p := ⟨g6, 0, none⟩) GG6.out _, fun _ => Rfar_ty RR1.out rfl (p := ⟨g6, 0, none⟩) CC6.out (by decide) _, fun _ h1_ => absurd ((up_self b 9).symm.trans h1_) (by decide), fun _ => (blk_put CC6.out 0 _ rfl : _), fun _ => GG6.out, fun h0_ => Rfar_ty (Q_RR3 h0_) rfl (p := ⟨g6, 0, none⟩) CC6.out (by decide) _, fun _ _ => blk_far (p := ⟨g6, 0, none⟩) CC7.out (fun h_ => by have h1_ := CC6.out; have h2_ := CC7.out; rw [show g7 = g6 from h_] at h2_; rw [h1_] at h2_; cases h2_) _, fun h0_ => absurd ((hoff 10 (by kernel_rfl)).symm.trans h0_) (by decide), fun _ => GG7.out, fun h0_ => Rfar_ty (Q_RR5 h0_) rfl (p := ⟨g6, 0, none⟩) CC6.out (by decide) _, fun _ _ => blk_far (p := ⟨g6, 0, none⟩) CC8.out (fun h_ => by have h1_ := CC6.out; have h2_ := CC8.out; rw [show g8 = g6 from h_] at h2_; rw [h1_] at h2_; cases h2_) _, fun h0_ => absurd ((hoff 11 (by kernel_rfl)).symm.trans h0_) (by decide), fun _ => GG8.out, Q_X6_, Q_X7_, Q_X8_⟩
  refine steps_cons ?_ ?_
  ·
   rintro b a w' ⟨v1, g6, v3, g7, v5, g8, m6_, m7_, m8_, ha, Q_HB2, Q_RR1, Q_CC6, Q_DD6, Q_GG6, Q_RR3, Q_CC7, Q_DD7, Q_GG7, Q_RR5, Q_CC8, Q_DD8, Q_GG8, Q_X6_, Q_X7_, Q_X8_⟩ hb_ hon hoff
   refine ⟨_, rfl, fun K hK => ?_⟩
   have e9 : a.tmps[9]? = some (m7_) := by rw [ha]; exact putSel_on (e := (7, 9, m7_)) 4 rfl rfl (hon 7 (by kernel_rfl)) rfl
   rw [Q_X7_ (hon 7 (by kernel_rfl))] at e9
   have e44 : a.tmps[44]? = some (v3) := by rw [ha]; exact putSel_on (e := (3, 44, v3)) 1 rfl rfl (hon 3 (by kernel_rfl)) rfl
   replace ha := Aside0.mk ha
   have HB2 := Aside0.mk Q_HB2
   have RR1 := Aside0.mk (Q_RR1 (hon 1 (by kernel_rfl)))
   have DD6 := Aside0.mk (Q_DD6 (hon 9 (by kernel_rfl)))
   have GG6 := Aside0.mk (Q_GG6 (hon 6 (by kernel_rfl)))
   have RR3 := Aside0.mk (Q_RR3 (hon 3 (by kernel_rfl)))
   have CC7 := Aside0.mk (Q_CC7 (hon 7 (by kernel_rfl)) hb_)
   have GG7 := Aside0.mk (Q_GG7 (hon 7 (by kernel_rfl)))
   have CC8 := Aside0.mk (Q_CC8 (hon 8 (by kernel_rfl)) (hoff 11 (by kernel_rfl)))
   have GG8 := Aside0.mk (Q_GG8 (hon 8 (by kernel_rfl)))
   obtain ⟨Av_, cv_, hv_⟩ := Kd.R_slice RR3.out
   rw [List.length_replicate] at hv_
   subst hv_
   refine skip_ (w1 := w'.setCell ⟨g7, 0, none⟩ (.slice Av_ n cv_)) (by rfl) rfl (store_cell 51 (.tmp 9) (.tmp 44) g7 Av_ n cv_ _ _ rfl (eval_of e9) (eval_of e44) CC7.out (by decide) (by kernel_rfl)) ?_
   refine hK.out _ _ ⟨v1, g6, (.slice Av_ n cv_), g7, v5, g8, m6_, m7_, m8_, (by rw [ha.out]; exact putSel_none (v := undef) rfl), HB2.out.setCell (p := ⟨g7, 0, none⟩) GG7.out _, fun _ => Rfar_ty RR1.out rfl (p := ⟨g7, 0, none⟩) CC7.out (by decide) _, fun _ h1_ => absurd ((hon 9 (by kernel_rfl)).symm.trans h1_) (by decide), fun _ => blk_far (p := ⟨g7, 0, none⟩) DD6.out (fun h_ => by have h1_ := CC7.out; have h2_ := DD6.out; rw [show g6 = g7 from h_] at h2_; rw [h1_] at h2_; cases h2_) _, fun _ => GG6.out, fun _ => Rfar_ty RR3.out rfl (p := ⟨g7, 0, none⟩) CC7.out (by decide) _, fun _ h1_ => absurd ((up_self b 10).symm.trans h1_) (by decide), fun _ => (blk_put CC7.out 0 _ rfl : _), fun _ => GG7.out, fun h0_ => Rfar_ty (Q_RR5 h0_) rfl (p := ⟨g7, 0, none⟩) CC7.out (by decide) _, fun _ _ => blk_far (p := ⟨g7, 0, none⟩) CC8.out (fun h_ => by have h1_ := CC7.out; have h2_ := CC8.out; rw [show g8 = g7 from h_] at h2_; rw [h1_] at h2_; cases h2_) _, fun h0_ => absurd ((hoff 11 (by kernel_rfl)).symm.trans h0_) (by decide), fun _ => GG8.out, Q_X6_, Q_X7_, Q_X8_⟩
  refine steps_cons ?_ ?_
  ·
   rintro b a w' ⟨v1, g6, v3, g7, v5, g8, m6_, m7_, m8_, ha, Q_HB2, Q_RR1, Q_CC6, Q_DD6, Q_GG6, Q_RR3, Q_CC7, Q_DD7, Q_GG7, Q_RR5, Q_CC8, Q_DD8, Q_GG8, Q_X6_, Q_X7_, Q_X8_⟩ hb_ hon hoff
   refine ⟨_, rfl, fun K hK => ?_⟩
   have e10 : a.tmps[10]? = some (m8_) := by rw [ha]; exact putSel_on (e := (8, 10, m8_)) 5 rfl rfl (hon 8 (by kernel_rfl)) rfl
   rw [Q_X8_ (hon 8 (by kernel_rfl))] at e10
   have e46 : a.tmps[46]? = some (v5) := by rw [ha]; exact putSel_on (e := (5, 46, v5)) 2 rfl rfl (hon 5 (by kernel_rfl)) rfl
   replace ha := Aside0.mk ha
   have HB2 := Aside0.mk Q_HB2
   have RR1 := Aside0.mk (Q_RR1 (hon 1 (by kernel_rfl)))
   have DD6 := Aside0.mk (Q_DD6 (hon 9 (by kernel_rfl)))
   have GG6 := Aside0.mk (Q_GG6 (hon 6 (by kernel_rfl)))
   have RR3 := Aside0.mk (Q_RR3 (hon 3 (by kernel_rfl)))
   have DD7 := Aside0.mk (Q_DD7 (hon 10 (by kernel_rfl)))
   have GG7 := Aside0.mk (Q_GG7 (hon 7 (by kernel_rfl)))
   have RR5 := Aside0.mk (Q_RR5 (hon 5 (by kernel_rfl)))
   have CC8 := Aside0.mk (Q_CC8 (hon 8 (by kernel_rfl)) hb_)
   have GG8 := Aside0.mk (Q_GG8 (hon 8 (by kernel_rfl)))
   obtain ⟨Av_, cv_, hv_⟩ := Kd.R_slice RR5.out
   rw [List.length_replicate] at hv_
   subst hv_
   refine skip_ (w1 := w'.setCell ⟨g8, 0, none⟩ (.slice Av_ n cv_)) (by rfl) rfl (store_cell 105 (.tmp 10) (.tmp 46) g8 Av_ n cv_ _ _ rfl (eval_of e10) (eval_of e46) CC8.out (by decide) (by kernel_rfl)) ?_
   refine hK.out _ _ ⟨v1, g6, v3, g7, (.slice Av_ n cv_), g8, m6_, m7_, m8_, (by rw [ha.out]; exact putSel_none (v := undef) rfl), HB2.out.setCell (p := ⟨g8, 0, none⟩) GG8.out _, fun _ => Rfar_ty RR1.out rfl (p := ⟨g8, 0, none⟩) CC8.out (by decide) _, fun _ h1_ => absurd ((hon 9 (by kernel_rfl)).symm.trans h1_) (by decide), fun _ => blk_far (p := ⟨g8, 0, none⟩) DD6.out (fun h_ => by have h1_ := CC8.out; have h2_ := DD6.out; rw [show g6 = g8 from h_] at h2_; rw [h1_] at h2_; cases h2_) _, fun _ => GG6.out, fun _ => Rfar_ty RR3.out rfl (p := ⟨g8, 0, none⟩) CC8.out (by decide) _, fun _ h1_ => absurd ((hon 10 (by kernel_rfl)).symm.trans h1_) (by decide), fun _ => blk_far (p := ⟨g8, 0, none⟩) DD7.out (fun h_ => by have h1_ := CC8.out; have h2_ := DD7.out; rw [show g7 = g8 from h_] at h2_; rw [h1_] at h2_; cases h2_) _, fun _ => GG7.out, fun _ => Rfar_ty RR5.out rfl (p := ⟨g8, 0, none⟩) CC8.out (by decide) _, fun _ h1_ => absurd ((up_self b 11).symm.trans h1_) (by decide), fun _ => (blk_put CC8.out 0 _ rfl : _), fun _ => GG8.out, Q_X6_, Q_X7_, Q_X8_⟩
  exact steps_nil
 rintro b a w' hall ⟨v1, g6, v3, g7, v5, g8, m6_, m7_, m8_, ha, Q_HB2, Q_RR1, Q_CC6, Q_DD6, Q_GG6, Q_RR3, Q_CC7, Q_DD7, Q_GG7, Q_RR5, Q_CC8, Q_DD8, Q_GG8, Q_X6_, Q_X7_, Q_X8_⟩
 clear HB2
 have hb1_ := hall 1 (by kernel_rfl)
 have hb3_ := hall 3 (by kernel_rfl)
 have hb5_ := hall 5 (by kernel_rfl)
 have hb6_ := hall 6 (by kernel_rfl)
 have hb7_ := hall 7 (by kernel_rfl)
 have hb8_ := hall 8 (by kernel_rfl)
 have hb9_ := hall 9 (by kernel_rfl)
 have hb10_ := hall 10 (by kernel_rfl)
 have hb11_ := hall 11 (by kernel_rfl)
 subst ha
 obtain rfl := Q_X6_ hb6_
 obtain rfl := Q_X7_ hb7_
 obtain rfl := Q_X8_ hb8_
 simp only [putSel, hb1_, hb3_, hb5_, hb6_, hb7_, hb8_, hb9_, hb10_, hb11_, if_true, Act.put, List.setIfInBounds_toArray, List.set_cons_zero, List.set_cons_succ]
 have HB2 := Aside0.mk Q_HB2
 clear Q_HB2
 have RR1 := Aside0.mk (Q_RR1 hb1_)
 clear Q_RR1
 clear Q_CC6
 have DD6 := Aside0.mk (Q_DD6 hb9_)
 clear Q_DD6
 have GG6 := Aside0.mk (Q_GG6 hb6_)
 clear Q_GG6
 have RR3 := Aside0.mk (Q_RR3 hb3_)
 clear Q_RR3
 clear Q_CC7
 have DD7 := Aside0.mk (Q_DD7 hb10_)
 clear Q_DD7
 have GG7 := Aside0.mk (Q_GG7 hb7_)
 clear Q_GG7
 have RR5 := Aside0.mk (Q_RR5 hb5_)
 clear Q_RR5
 clear Q_CC8
 have DD8 := Aside0.mk (Q_DD8 hb11_)
 clear Q_DD8
 have GG8 := Aside0.mk (Q_GG8 hb8_)
 clear Q_GG8
 clear hall hb1_ hb3_ hb5_ hb6_ hb7_ hb8_ hb9_ hb10_ hb11_
 clear hHeld HT_ HW_ hw0
 obtain ⟨A1, c1, hv1⟩ := Kd.R_slice RR1.out
 rw [List.length_replicate] at hv1
 subst hv1
 obtain ⟨A3, c3, hv3⟩ := Kd.R_slice RR3.out
 rw [List.length_replicate] at hv3
 subst hv3
 obtain ⟨A5, c5, hv5⟩ := Kd.R_slice RR5.out
 rw [List.length_replicate] at hv5
 subst hv5
 obtain ⟨q1, hq1⟩ : ∃ q, mx 0 (cut gap) = q := ⟨_, rfl⟩
 obtain ⟨q2, hq2⟩ : ∃ q, mx 0 (wrap64 ((n : Int) - 1)) = q := ⟨_, rfl⟩
 have hlen : wrap64 ((n : Int) - 1) = (n : Int) - 1 := by unfold wrap64; omega
 have hq2_ : (if 0 < (n : Int) - 1 then (n : Int) - 1 else 0) = q2 := by rw [hlen] at hq2; exact hq2
 have hq2n : (if 1 < n then (n : Int) - 1 else 0) = q2 := by rw [← hq2_]; simp only [show (0 < (n : Int) - 1) = (1 < n) by rw [eq_iff_iff]; omega]
 have hq2i : (if 1 < (n : Int) then (n : Int) - 1 else 0) = q2 := by rw [← hq2_]; simp only [show (0 < (n : Int) - 1) = (1 < (n : Int)) by rw [eq_iff_iff]; omega]
 have HRM : Aside0 (wrap64 (cut room - wrap64 (q1 * q2)) = roomOf room gap n) := ⟨by rw [← hq1, ← hq2]; rfl⟩
 have HQ1 := Aside0.mk hq1
 clear hq1 hq2
 go_wp2_with (first | (go_at_call 21; (with_reducible refine (rcut_calls room _).mono ?_); rintro e w3 ⟨rfl, hb⟩; have RI_w3 := Aside0.mk (Kd.R_below RR1.out hb); have RS_w3 := Aside0.mk (Kd.R_below RR3.out hb); have RT_w3 := Aside0.mk (Kd.R_below RR5.out hb); have KI_w3 := Aside0.mk (blk_below DD6.out hb); have KS_w3 := Aside0.mk (blk_below DD7.out hb); have KT_w3 := Aside0.mk (blk_below DD8.out hb); have HB_w3 := Aside0.mk (below_step HB2.out hb); clear hb) | (go_at_call 72; (with_reducible refine (clerestoryref3_size.calls gap q1 _ (by rw [size_b, HQ1.out])).mono ?_); rintro e w4 ⟨rfl, hb⟩; have RI_w4 := Aside0.mk (Kd.R_below RI_w3.out hb); have RS_w4 := Aside0.mk (Kd.R_below RS_w3.out hb); have RT_w4 := Aside0.mk (Kd.R_below RT_w3.out hb); have KI_w4 := Aside0.mk (blk_below KI_w3.out hb); have KS_w4 := Aside0.mk (blk_below KS_w3.out hb); have KT_w4 := Aside0.mk (blk_below KT_w3.out hb); have HB_w4 := Aside0.mk (below_step HB_w3.out hb); clear hb) | ((with_reducible refine gate_dst (N := 11) rfl ?_); refine box_event rfl (N := 11) rfl (cs := #[.int .i64 0]) (t := 3) (by first | (go_simp; done) | (go_simp; rfl)) ?_; intro gL hg_ w5 hbx hb; have HM5 : Aside0 (RM w w5 gL g6 g7 g8 A1 A3 A5 c1 c3 c5 n 0 (List.replicate n z91) (List.replicate n 0) (List.replicate n false)) := ⟨⟨hbx, blk_below KI_w4.out hb, blk_below KS_w4.out hb, blk_below KT_w4.out hb, Kd.R_below (Kd.R_mono (Kd.R_bound RI_w4.out) (ok' := fun q => q < gL) (fun q hq => by have := hq.2.2.1; omega)) hb, Kd.R_below (Kd.R_mono (Kd.R_bound RS_w4.out) (ok' := fun q => q < gL) (fun q hq => by have := hq.2.2.1; omega)) hb, Kd.R_below (Kd.R_mono (Kd.R_bound RT_w4.out) (ok' := fun q => q < gL) (fun q hq => by have := hq.2.2.1; omega)) hb, by have := HB_w4.out.size; omega, below_step HB_w4.out hb⟩⟩; have hcl : w5.cell? ⟨gL, 0, none⟩ = some (.int .i64 0) := (blk_cell hbx 0).trans rfl; have hfl : w5.frozen? ⟨gL, 0, none⟩ = false := blk_frozen hbx 0; clear hg_ hbx hb))
 clear hcl hfl hq2_ hq2n hq2i hlen HQ1 RR1 RR3 RR5 DD6 DD7 DD8 HB2 GG6 GG7 GG8 RI_w3 RS_w3 RT_w3 KI_w3 KS_w3 KT_w3 HB_w3 RI_w4 RS_w4 RT_w4 KI_w4 KS_w4 KT_w4 HB_w4
 have HM6 := Aside0.mk (HM5.out.left (wrap64 (cut room - wrap64 (q1 * q2))))
 clear HM5
 generalize w5.setCell ⟨gL, 0, none⟩ (.int .i64 (wrap64 (cut room - wrap64 (q1 * q2)))) = w6 at HM6 ⊢
 rw [HRM.out] at HM6
 clear HRM
 go_loopw [12, 58] (fun v i wr => ∃ k : Nat, k ≤ n ∧ v = .int .i64 (longN l0 k) ∧ i = .int .i64 k ∧ Aside0 (RM w wr gL g6 g7 g8 A1 A3 A5 c1 c3 c5 n (leftN (roomOf room gap n) l0 k) (told91 l0 k) (List.replicate n 0) (List.replicate n false))) (fun _ i _ => n - (intOf i).toNat)
 case atStart => exact ⟨0, Nat.zero_le _, rfl, rfl, ⟨by have h := HM6.out; rw [← HN.out] at h ⊢; simpa [told91, leftN] using h⟩⟩
 case round =>
  clear HM6
  obtain ⟨k, hk, rfl, rfl, HM⟩ := hrel
  by_cases hlt : k < n
  ·
   obtain ⟨gi, gs, gt, rfl, rfl, rfl⟩ := HM.out.forms (by omega)
   obtain ⟨ad1, rfl, hx0, hx1, hx2, hx3, hx4, hx5⟩ := at_T91 (Kd.C_below HC.out HM.out.HB) (k : Int) (by omega) (by omega)
   have HTS : Aside0 ((told91 l0 k).set k (flexible (rd_T91 l0 (k : Int))) = told91 l0 (k + 1)) := ⟨told91_set l0 k (by have := HN.out; omega)⟩
   have HLL : Aside0 (leftN (roomOf room gap n) l0 (k + 1) = wrap64 (leftN (roomOf room gap n) l0 k - (flexible (rd_T91 l0 (k : Int))).f5)) := ⟨rfl⟩
   have HLG : Aside0 (longN l0 (k + 1) = wrap64 (longN l0 k + longOf (flexible (rd_T91 l0 (k : Int))))) := ⟨rfl⟩
   obtain ⟨lo, hlo⟩ : ∃ q, longN l0 k = q := ⟨_, rfl⟩
   rw [hlo] at HLG ⊢
   clear hlo
   obtain ⟨L, hL⟩ : ∃ q, leftN (roomOf room gap n) l0 k = q := ⟨_, rfl⟩
   rw [hL] at HLL HM
   clear hL
   have HXL : Aside0 ((told91 l0 k).length = n) := ⟨by rw [told91_length _ _ (by have := HN.out; omega)]; exact HN.out⟩
   obtain ⟨X, hX⟩ : ∃ q, told91 l0 k = q := ⟨_, rfl⟩
   rw [hX] at HTS HM HXL
   clear hX
   obtain ⟨x, hx⟩ : ∃ x, rd_T91 l0 (k : Int) = x := ⟨_, rfl⟩
   rw [hx] at hx0 hx1 hx2 hx3 hx4 hx5 HTS HLL HLG
   clear hx
   obtain ⟨a0, a1, a2, a3, a4, a5⟩ := x
   obtain ⟨y, hy⟩ : ∃ y, flexible ⟨a0, a1, a2, a3, a4, a5⟩ = y := ⟨_, rfl⟩
   rw [hy] at HTS HLL HLG
   have HY := Aside0.mk hy
   clear hy
   simp only [Int.toNat_natCast] at hx0 hx1 hx2 hx3 hx4 hx5
   go_wp2_with (first | ((with_reducible refine gate_dst (N := 14) rfl ?_); refine box_event rfl (N := 14) rfl (cs := #[.int .i64 0, .int .i64 0, .int .i64 0, .int .i64 0, .int .i64 0, .int .i64 0]) (t := 91) (by first | (go_simp; done) | (go_simp; rfl)) ?_; intro gx hgx w3 hbx hb; have KX0 := Aside0.mk hbx; have HGX : Aside0 (wr.heap.size ≤ gx) := ⟨by omega⟩; have BX := Aside0.mk hb; clear hgx hbx hb) | ((with_reducible refine gate_store (t := 91) (p := 14) rfl ?_); refine store_event (t := 91) (p := 14) (w1 := w3.setCells gx 0 (#[.int .i64 a0, .int .i64 a1, .int .i64 a2, .int .i64 a3, .int .i64 a4, .int .i64 a5] : Array Value).toList) rfl rfl rfl (store_run 91 (.tmp 14) (.tmp 62) gx #[.int .i64 a0, .int .i64 a1, .int .i64 a2, .int .i64 a3, .int .i64 a4, .int .i64 a5] rfl rfl rfl (there_row KX0.out _ (Nat.le_refl 6)) (by kernel_rfl) (all_oneCell_toArray (cs := [.int .i64 a0, .int .i64 a1, .int .i64 a2, .int .i64 a3, .int .i64 a4, .int .i64 a5]) (by intro v hv; simp only [List.mem_cons, List.not_mem_nil, or_false] at hv; rcases hv with rfl | rfl | rfl | rfl | rfl | rfl <;> rfl))) ?_; intro w4 hw3; have KX : Aside0 (w4.heap[gx]? = some (.cells #[.int .i64 a0, .int .i64 a1, .int .i64 a2, .int .i64 a3, .int .i64 a4, .int .i64 a5] 91 (0, 0))) := ⟨by rw [hw3]; exact sets_row KX0.out rfl⟩; have BX3 : Aside0 (Below wr.heap.size wr w4) := ⟨by rw [hw3]; exact sets_below HGX.out _ 0 _ BX.out⟩; clear hw3; have cx0 : w4.cell? ⟨gx, 0, none⟩ = some (.int .i64 a0) := (blk_cell KX.out 0).trans rfl; have cx1 : w4.cell? ⟨gx, 1, none⟩ = some (.int .i64 a1) := (blk_cell KX.out 1).trans rfl; have cx2 : w4.cell? ⟨gx, 2, none⟩ = some (.int .i64 a2) := (blk_cell KX.out 2).trans rfl; have cx3 : w4.cell? ⟨gx, 3, none⟩ = some (.int .i64 a3) := (blk_cell KX.out 3).trans rfl; have cx4 : w4.cell? ⟨gx, 4, none⟩ = some (.int .i64 a4) := (blk_cell KX.out 4).trans rfl; have cx5 : w4.cell? ⟨gx, 5, none⟩ = some (.int .i64 a5) := (blk_cell KX.out 5).trans rfl; have HM4 := Aside0.mk (HM.out.below BX3.out)))
   clear hx0 hx1 hx2 hx3 hx4 hx5 HM
   have HM4d := Aside0.mk HM4.out.drew
   have KX4d : Aside0 (w4.drew.heap[gx]? = _) := ⟨KX.out⟩
   refine start_ (n := 6) (S := fun w' => w'.cell? ⟨g6, 0, none⟩ = some (.slice (some ⟨gi, 0, none⟩) n c1) ∧ w'.cell? ⟨gx, 0, none⟩ = some (.int .i64 a0) ∧ w'.cell? ⟨gx, 1, none⟩ = some (.int .i64 a1) ∧ w'.cell? ⟨gx, 2, none⟩ = some (.int .i64 a2) ∧ w'.cell? ⟨gx, 3, none⟩ = some (.int .i64 a3) ∧ w'.cell? ⟨gx, 4, none⟩ = some (.int .i64 a4) ∧ w'.cell? ⟨gx, 5, none⟩ = some (.int .i64 a5)) (ds := [5]) #[false, false, false, false, false, false] (by kernel_rfl) rfl rfl ⟨HM4d.out.cI, (blk_cell KX4d.out 0).trans rfl, (blk_cell KX4d.out 1).trans rfl, (blk_cell KX4d.out 2).trans rfl, (blk_cell KX4d.out 3).trans rfl, (blk_cell KX4d.out 4).trans rfl, (blk_cell KX4d.out 5).trans rfl⟩ (fun hHeld => ?_)
   refine pure_ (i := 1) (N := some 64) (v := ?_) (a' := ?_) #[false, true, false, false, false, false] rfl rfl (by kernel_rfl) (fun _ _ _ h => h) (Or.inl ⟨by rfl, ?_⟩) ?_ ?_
   rotate_left; · intro w'; go_simp; with_reducible rfl
   rotate_left; · simp only [Act.put, q1_, q2_, q3_, i64_w, i32_w]; rfl
   refine take_ (i := 0) (N := some 63) (v := ?_) (a' := ?_) #[true, true, false, false, false, false] rfl rfl (by kernel_rfl) (fun _ _ _ h => h) (Or.inl ⟨by rfl, ?_⟩) hHeld ?_ ?_
   rotate_left; · rintro w' ⟨s0, s1, s2, s3, s4, s5, s6⟩; go_simp; with_reducible rfl
   rotate_left; · simp only [Act.put, q1_, q2_, q3_, i64_w, i32_w]; rfl
   refine take_ (i := 2) (N := some 65) (v := ?_) (a' := ?_) #[true, true, true, false, false, false] rfl rfl (by kernel_rfl) (fun _ _ _ h => h) (Or.inl ⟨by rfl, ?_⟩) hHeld ?_ ?_
   rotate_left; · rintro w' ⟨s0, s1, s2, s3, s4, s5, s6⟩; go_simp; with_reducible rfl
   rotate_left; · simp only [Act.put, q1_, q2_, q3_, i64_w, i32_w]; rfl
   refine one_ (i := 3) (N := some 66) #[true, true, true, true, false, false] rfl rfl (by kernel_rfl) (by decide) (fun K hK => ?_)
   refine goes_ Try.func73 (by kernel_rfl) rfl #[.agg #[.int .i64 a0, .int .i64 a1, .int .i64 a2, .int .i64 a3, .int .i64 a4, .int .i64 a5]] (by rfl) rfl rfl (by simp only [List.map_toArray, List.map_cons, List.map_nil]; rfl) ?_
   with_reducible refine (rflex_calls a0 a1 a2 a3 a4 a5 y HY.out _).mono ?_
   rintro e w5 ⟨rfl, hb⟩
   refine ⟨_, rfl, ?_⟩
   have HM5 := Aside0.mk (HM4d.out.below hb)
   have KX5 := Aside0.mk (blk_below KX4d.out hb)
   clear hb
   refine hK.out _ _ ⟨HM5.out.cI, (blk_cell KX5.out 0).trans rfl, (blk_cell KX5.out 1).trans rfl, (blk_cell KX5.out 2).trans rfl, (blk_cell KX5.out 3).trans rfl, (blk_cell KX5.out 4).trans rfl, (blk_cell KX5.out 5).trans rfl⟩ (fun hHeld => ?_)
   clear hK K
   refine norm_ (a' := ?_) ?_ ?_
   rotate_left
   ·
    show Act.put _ (some 66) _ = _
    simp only [Act.put, q1_, q2_, q3_, i64_w, i32_w]
    rfl
   refine pure_ (i := 4) (N := some 67) (v := ?_) (a' := ?_) #[true, true, true, true, true, false] rfl rfl (by kernel_rfl) (fun _ _ _ h => h) (Or.inl ⟨by rfl, ?_⟩) ?_ ?_
   rotate_left; · intro w'; go_simp; with_reducible rfl
   rotate_left; · simp only [Act.put, q1_, q2_, q3_, i64_w, i32_w]; rfl
   refine last_ (i := 5) (N := none) #[true, true, true, true, true, true] rfl rfl (by kernel_rfl) (by decide) (fun K hK => ?_)
   refine skip_ (w1 := w5.setCells gi (k * 6) (enc6 y)) (by rfl) rfl (store_run_at 91 (.tmp 67) (.tmp 66) gi (k * 6) #[.int .i64 y.f0, .int .i64 y.f1, .int .i64 y.f2, .int .i64 y.f3, .int .i64 y.f4, .int .i64 y.f5] rfl (by rfl) (by rfl) (by have := there_row91 HM5.out.RI (k : Int) (by omega) (by omega); rw [Int.toNat_natCast] at this; exact this) (by kernel_rfl) (all_oneCell_toArray (cs := [.int .i64 y.f0, .int .i64 y.f1, .int .i64 y.f2, .int .i64 y.f3, .int .i64 y.f4, .int .i64 y.f5]) (by intro v hv; simp only [List.mem_cons, List.not_mem_nil, or_false] at hv; rcases hv with rfl | rfl | rfl | rfl | rfl | rfl <;> rfl))) ?_
   refine hK.out _ _ ?_
   clear hK K
   refine done_ (by kernel_rfl) ?_
   have HM6 := Aside0.mk (HM5.out.item k hlt y)
   clear HM5 HM4d HM4 KX5 KX4d KX KX0
   generalize w5.setCells gi (k * 6) (enc6 y) = w6 at HM6 ⊢
   go_wp2_with fail
   have HRY : Aside0 (rd_T91 (X.set k y) (k : Int) = y) := ⟨rd91_set X k y (by rw [HXL.out]; exact hlt)⟩
   have HM6d := Aside0.mk HM6.out.drew
   have cy0 := (row_get91 HM6d.out.RI (k : Int) (by omega) (by omega) 0 _ (by rw [HRY.out]; rfl)).1
   have cy1 := (row_get91 HM6d.out.RI (k : Int) (by omega) (by omega) 1 _ (by rw [HRY.out]; rfl)).1
   have cy2 := (row_get91 HM6d.out.RI (k : Int) (by omega) (by omega) 2 _ (by rw [HRY.out]; rfl)).1
   have cy3 := (row_get91 HM6d.out.RI (k : Int) (by omega) (by omega) 3 _ (by rw [HRY.out]; rfl)).1
   have cy4 := (row_get91 HM6d.out.RI (k : Int) (by omega) (by omega) 4 _ (by rw [HRY.out]; rfl)).1
   have cy5 := (row_get91 HM6d.out.RI (k : Int) (by omega) (by omega) 5 _ (by rw [HRY.out]; rfl)).1
   simp only [Int.toNat_natCast, Nat.add_zero] at cy0 cy1 cy2 cy3 cy4 cy5
   have hfL := blk_frozen HM6d.out.KL 0
   refine start_ (n := 8) (S := fun w' => w'.cell? ⟨gL, 0, none⟩ = some (.int .i64 L) ∧ w'.cell? ⟨g6, 0, none⟩ = some (.slice (some ⟨gi, 0, none⟩) n c1) ∧ w'.cell? ⟨gi, k * 6 + 5, none⟩ = some (.int .i64 y.f5)) (ds := [7]) #[false, false, false, false, false, false, false, false] (by kernel_rfl) rfl rfl ⟨HM6d.out.cL, HM6d.out.cI, cy5⟩ (fun hHeld => ?_)
   refine pure_ (i := 2) (N := some 70) (v := ?_) (a' := ?_) #[false, false, true, false, false, false, false, false] rfl rfl (by kernel_rfl) (fun _ _ _ h => h) (Or.inl ⟨by rfl, ?_⟩) ?_ ?_
   rotate_left; · intro w'; go_simp; with_reducible rfl
   rotate_left; · simp only [Act.put, q1_, q2_, q3_, i64_w, i32_w]; rfl
   refine take_ (i := 0) (N := some 68) (v := ?_) (a' := ?_) #[true, false, true, false, false, false, false, false] rfl rfl (by kernel_rfl) (fun _ _ _ h => h) (Or.inl ⟨by rfl, ?_⟩) hHeld ?_ ?_
   rotate_left; · rintro w' ⟨s0, s1, s2⟩; go_simp; with_reducible rfl
   rotate_left; · simp only [Act.put, q1_, q2_, q3_, i64_w, i32_w]; rfl
   refine take_ (i := 1) (N := some 69) (v := ?_) (a' := ?_) #[true, true, true, false, false, false, false, false] rfl rfl (by kernel_rfl) (fun _ _ _ h => h) (Or.inl ⟨by rfl, ?_⟩) hHeld ?_ ?_
   rotate_left; · rintro w' ⟨s0, s1, s2⟩; go_simp; with_reducible rfl
   rotate_left; · simp only [Act.put, q1_, q2_, q3_, i64_w, i32_w]; rfl
   refine pure_ (i := 3) (N := some 71) (v := ?_) (a' := ?_) #[true, true, true, true, false, false, false, false] rfl rfl (by kernel_rfl) (fun _ _ _ h => h) (Or.inl ⟨by rfl, ?_⟩) ?_ ?_
   rotate_left; · intro w'; go_simp; with_reducible rfl
   rotate_left; · simp only [Act.put, q1_, q2_, q3_, i64_w, i32_w]; rfl
   refine pure_ (i := 4) (N := some 72) (v := ?_) (a' := ?_) #[true, true, true, true, true, false, false, false] rfl rfl (by kernel_rfl) (fun _ _ _ h => h) (Or.inl ⟨by rfl, ?_⟩) ?_ ?_
   rotate_left; · intro w'; go_simp; with_reducible rfl
   rotate_left; · simp only [Act.put, q1_, q2_, q3_, i64_w, i32_w]; rfl
   refine take_ (i := 5) (N := some 73) (v := ?_) (a' := ?_) #[true, true, true, true, true, true, false, false] rfl rfl (by kernel_rfl) (fun _ _ _ h => h) (Or.inl ⟨by rfl, ?_⟩) hHeld ?_ ?_
   rotate_left; · rintro w' ⟨s0, s1, s2⟩; go_simp; with_reducible rfl
   rotate_left; · simp only [Act.put, q1_, q2_, q3_, i64_w, i32_w]; rfl
   refine pure_ (i := 6) (N := some 74) (v := ?_) (a' := ?_) #[true, true, true, true, true, true, true, false] rfl rfl (by kernel_rfl) (fun _ _ _ h => h) (Or.inl ⟨by rfl, ?_⟩) ?_ ?_
   rotate_left; · intro w'; go_simp; with_reducible rfl
   rotate_left; · simp only [Act.put, q1_, q2_, q3_, i64_w, i32_w]; rfl
   refine last_ (i := 7) (N := none) #[true, true, true, true, true, true, true, true] rfl rfl (by kernel_rfl) (by decide) (fun K hK => ?_)
   refine skip_ (w1 := ?_) (by rfl) rfl ?_ ?_
   rotate_left
   ·
    go_simp
    rfl
   refine hK.out _ _ ?_
   clear hK K
   refine done_ (by kernel_rfl) ?_
   have HM7 := Aside0.mk (HM6.out.left (wrap64 (L - y.f5))).drew
   clear HM6 HM6d cy0 cy1 cy2 cy3 cy4 cy5 hfL
   generalize (w6.setCell ⟨gL, 0, none⟩ (.int .i64 (wrap64 (L - y.f5)))).drew = w7 at HM7 ⊢
   have cy0 := (row_get91 HM7.out.RI (k : Int) (by omega) (by omega) 0 _ (by rw [HRY.out]; rfl)).1
   have cy1 := (row_get91 HM7.out.RI (k : Int) (by omega) (by omega) 1 _ (by rw [HRY.out]; rfl)).1
   have cy2 := (row_get91 HM7.out.RI (k : Int) (by omega) (by omega) 2 _ (by rw [HRY.out]; rfl)).1
   have cy3 := (row_get91 HM7.out.RI (k : Int) (by omega) (by omega) 3 _ (by rw [HRY.out]; rfl)).1
   have cy4 := (row_get91 HM7.out.RI (k : Int) (by omega) (by omega) 4 _ (by rw [HRY.out]; rfl)).1
   have cy5 := (row_get91 HM7.out.RI (k : Int) (by omega) (by omega) 5 _ (by rw [HRY.out]; rfl)).1
   simp only [Int.toNat_natCast, Nat.add_zero] at cy0 cy1 cy2 cy3 cy4 cy5
   have cI7 := HM7.out.cI
   go_wp2_with (go_at_call 74; (with_reducible refine (rlong_calls y.f0 y.f1 y.f2 y.f3 y.f4 y.f5 _).mono ?_); rintro e w8 ⟨rfl, hb⟩; have HM8 := Aside0.mk (HM7.out.below hb); clear hb)
   go_roundw
   case rel => exact ⟨k + 1, by omega, by rw [HLG.out], by go_num, ⟨by rw [← HTS.out, HLL.out]; exact HM8.out⟩⟩
   case measure => simp [intOf]; omega
  obtain rfl : n = k := by omega
  have HXD : Aside0 (told91 l0 n = l0.map flexible) := ⟨by rw [← HN.out]; exact told91_end l0⟩
  rw [HXD.out] at HM
  obtain ⟨X, hX⟩ : ∃ q, l0.map flexible = q := ⟨_, rfl⟩
  have HXL : Aside0 (X.length = n) := ⟨by rw [← hX, List.length_map]; exact HN.out⟩
  rw [hX] at HM
  have HXE := Aside0.mk hX
  clear hX HXD
  obtain ⟨L, hL⟩ : ∃ q, leftN (roomOf room gap n) l0 n = q := ⟨_, rfl⟩
  rw [hL] at HM
  have HLE := Aside0.mk hL
  clear hL
  obtain ⟨lo, hlo⟩ : ∃ q, longN l0 n = q := ⟨_, rfl⟩
  rw [hlo]
  have HLO := Aside0.mk hlo
  clear hlo
  have cL := HM.out.cL
  go_wp2_with ((with_reducible refine gate_dst (N := 15) rfl ?_); refine box_event rfl (N := 15) rfl (cs := #[.bool false]) (t := 4) (by first | (go_simp; done) | (go_simp; rfl)) ?_; intro gG hg_ w7 hbx hb; have GG : Aside0 (gL < gG) := ⟨by have := blk_lt HM.out.KL; omega⟩; have HM7 := HM.out.below hb; have HM8 := Aside0.mk (HM7.far GG.out hbx (by decide) (by decide) (by decide) 0 (.bool (decide (0 < wrap64 (L - lo))))); have KG8 := Aside0.mk (show (w7.setCell ⟨gG, 0, none⟩ (.bool (decide (0 < wrap64 (L - lo))))).heap[gG]? = _ from blk_put hbx 0 (.bool (decide (0 < wrap64 (L - lo)))) rfl); have hcg : w7.cell? ⟨gG, 0, none⟩ = some (.bool false) := (blk_cell hbx 0).trans rfl; have hfg := blk_frozen hbx 0; have cI8 := HM8.out.cI; clear hg_ hbx hb HM7)
  clear hcg hfg cL
  generalize w7.setCell ⟨gG, 0, none⟩ (.bool (decide (0 < wrap64 (L - lo)))) = w8 at HM8 KG8 cI8 ⊢
  obtain ⟨gr, hgr⟩ : ∃ q, decide (0 < wrap64 (L - lo)) = q := ⟨_, rfl⟩
  have KGr : Aside0 (w8.heap[gG]? = some (.cells #[.bool gr] 4 (0, 0))) := ⟨by rw [← hgr]; exact KG8.out⟩
  have HGR := Aside0.mk hgr
  clear hgr KG8 cI8 HM
  go_loopw [90] (fun i wr => ∃ k : Nat, k ≤ n ∧ i = .int .i64 k ∧ Aside0 (RM w wr gL g6 g7 g8 A1 A3 A5 c1 c3 c5 n L X (isN gr X n k) (stN gr X n k)) ∧ Aside0 (wr.heap[gG]? = some (.cells #[.bool gr] 4 (0, 0)))) (fun i _ => n - (intOf i).toNat)
  case atStart => exact ⟨0, Nat.zero_le _, rfl, HM8, KGr⟩
  case round =>
   clear HM8 KGr
   obtain ⟨k, hk, rfl, HM, KG⟩ := hrel
   by_cases hlt : k < n
   ·
    obtain ⟨gi, gs, gt, rfl, rfl, rfl⟩ := HM.out.forms (by omega)
    obtain ⟨x, hx⟩ : ∃ x, rd_T91 X (k : Int) = x := ⟨_, rfl⟩
    have HS1 : Aside0 (isN gr X n (k + 1) = if atO gr x then (isN gr X n k).set k (longOf x) else isN gr X n k) := ⟨by rw [← hx]; rfl⟩
    have HS2 : Aside0 (stN gr X n (k + 1) = if atO gr x then (stN gr X n k).set k true else stN gr X n k) := ⟨by rw [← hx]; rfl⟩
    obtain ⟨a0, a1, a2, a3, a4, a5⟩ := x
    have hx0 := (row_get91 HM.out.RI (k : Int) (by omega) (by omega) 0 _ (by rw [hx]; rfl)).1
    have hx1 := (row_get91 HM.out.RI (k : Int) (by omega) (by omega) 1 _ (by rw [hx]; rfl)).1
    have hx2 := (row_get91 HM.out.RI (k : Int) (by omega) (by omega) 2 _ (by rw [hx]; rfl)).1
    have hx3 := (row_get91 HM.out.RI (k : Int) (by omega) (by omega) 3 _ (by rw [hx]; rfl)).1
    have hx4 := (row_get91 HM.out.RI (k : Int) (by omega) (by omega) 4 _ (by rw [hx]; rfl)).1
    have hx5 := (row_get91 HM.out.RI (k : Int) (by omega) (by omega) 5 _ (by rw [hx]; rfl)).1
    simp only [Int.toNat_natCast, Nat.add_zero] at hx0 hx1 hx2 hx3 hx4 hx5
    clear hx
    obtain ⟨fv, hfv⟩ : ∃ q, fac91 gr ⟨a0, a1, a2, a3, a4, a5⟩ = q := ⟨_, rfl⟩
    obtain ⟨lg, hlg⟩ : ∃ q, longOf ⟨a0, a1, a2, a3, a4, a5⟩ = q := ⟨_, rfl⟩
    have HAT : Aside0 (atO gr ⟨a0, a1, a2, a3, a4, a5⟩ = ((fv == 0) || ((gr && decide (lg < a0)) || (!gr && decide (a0 < lg))))) := ⟨by rw [← hfv, ← hlg]; rfl⟩
    have HFV := Aside0.mk hfv
    have HLGX := Aside0.mk hlg
    clear hfv hlg
    rw [HLGX.out] at HS1
    have NGX : Aside0 (∀ q, q < gL → q < wr.heap.size) := ⟨fun q hq => by have := blk_lt HM.out.KL; omega⟩
    by_cases h0 : fv = 0
    ·
     have e0 : (fv == 0) = true := beq_iff_eq.mpr h0
     clear h0
     as_aux_lemma =>
      have HT : Aside0 (atO gr ⟨a0, a1, a2, a3, a4, a5⟩ = true) := ⟨by rw [HAT.out, e0]; first | rfl | simp⟩
      rw [HT.out] at HS1 HS2
      go_wp2_with (first | ((with_reducible refine gate_dst (N := 18) rfl ?_); refine box_event rfl (N := 18) rfl (cs := #[.int .i64 0, .int .i64 0, .int .i64 0, .int .i64 0, .int .i64 0, .int .i64 0]) (t := 91) (by first | (go_simp; done) | (go_simp; rfl)) ?_; intro gx hgx w3 hbx hb; have KX0 := Aside0.mk hbx; have HGX : Aside0 (wr.heap.size ≤ gx) := ⟨by omega⟩; have BX := Aside0.mk hb; clear hgx hbx hb) | ((with_reducible refine gate_store (t := 91) (p := 18) rfl ?_); refine store_event (t := 91) (p := 18) (w1 := w3.setCells gx 0 (#[.int .i64 a0, .int .i64 a1, .int .i64 a2, .int .i64 a3, .int .i64 a4, .int .i64 a5] : Array Value).toList) rfl rfl rfl (store_run 91 (.tmp 18) (.tmp 94) gx #[.int .i64 a0, .int .i64 a1, .int .i64 a2, .int .i64 a3, .int .i64 a4, .int .i64 a5] rfl rfl rfl (there_row KX0.out _ (Nat.le_refl 6)) (by kernel_rfl) (all_oneCell_toArray (cs := [.int .i64 a0, .int .i64 a1, .int .i64 a2, .int .i64 a3, .int .i64 a4, .int .i64 a5]) (by intro v hv; simp only [List.mem_cons, List.not_mem_nil, or_false] at hv; rcases hv with rfl | rfl | rfl | rfl | rfl | rfl <;> rfl))) ?_; intro w4 hw3; have KX : Aside0 (w4.heap[gx]? = some (.cells #[.int .i64 a0, .int .i64 a1, .int .i64 a2, .int .i64 a3, .int .i64 a4, .int .i64 a5] 91 (0, 0))) := ⟨by rw [hw3]; exact sets_row KX0.out rfl⟩; have BX3 : Aside0 (Below wr.heap.size wr w4) := ⟨by rw [hw3]; exact sets_below HGX.out _ 0 _ BX.out⟩; clear hw3; have cx0 : w4.cell? ⟨gx, 0, none⟩ = some (.int .i64 a0) := (blk_cell KX.out 0).trans rfl; have cx1 : w4.cell? ⟨gx, 1, none⟩ = some (.int .i64 a1) := (blk_cell KX.out 1).trans rfl; have cx2 : w4.cell? ⟨gx, 2, none⟩ = some (.int .i64 a2) := (blk_cell KX.out 2).trans rfl; have cx3 : w4.cell? ⟨gx, 3, none⟩ = some (.int .i64 a3) := (blk_cell KX.out 3).trans rfl; have cx4 : w4.cell? ⟨gx, 4, none⟩ = some (.int .i64 a4) := (blk_cell KX.out 4).trans rfl; have cx5 : w4.cell? ⟨gx, 5, none⟩ = some (.int .i64 a5) := (blk_cell KX.out 5).trans rfl; have HM4 := Aside0.mk (HM.out.below BX3.out); have KG4 := Aside0.mk (blk_below KG.out BX3.out)))
      clear cx0 cx1 cx2 cx3 cx4 cx5 hx0 hx1 hx2 hx3 hx4 hx5
      have KG4d : Aside0 (w4.drew.heap[gG]? = _) := ⟨KG4.out⟩
      have KX4d : Aside0 (w4.drew.heap[gx]? = _) := ⟨KX.out⟩
      have HM4d := Aside0.mk HM4.out.drew
      refine start_ (n := 25) (S := fun w' => w'.cell? ⟨gG, 0, none⟩ = some (.bool gr) ∧ w'.cell? ⟨gx, 0, none⟩ = some (.int .i64 a0) ∧ w'.cell? ⟨gx, 1, none⟩ = some (.int .i64 a1) ∧ w'.cell? ⟨gx, 2, none⟩ = some (.int .i64 a2) ∧ w'.cell? ⟨gx, 3, none⟩ = some (.int .i64 a3) ∧ w'.cell? ⟨gx, 4, none⟩ = some (.int .i64 a4) ∧ w'.cell? ⟨gx, 5, none⟩ = some (.int .i64 a5)) (ds := []) B4_ (by kernel_rfl) rfl rfl ⟨(blk_cell KG4d.out 0).trans rfl, (blk_cell KX4d.out 0).trans rfl, (blk_cell KX4d.out 1).trans rfl, (blk_cell KX4d.out 2).trans rfl, (blk_cell KX4d.out 3).trans rfl, (blk_cell KX4d.out 4).trans rfl, (blk_cell KX4d.out 5).trans rfl⟩ (fun hHeld => ?_)
      refine pure_ (i := 0) (N := some 95) (v := ?_) (a' := ?_) B5_ rfl rfl (by kernel_rfl) (fun _ _ _ h => h) (Or.inl ⟨by rfl, ?_⟩) ?_ ?_
      rotate_left; · intro w'; go_simp; with_reducible rfl
      rotate_left; · simp only [Act.put, q1_, q2_, q3_, i64_w, i32_w]; rfl
      refine take_ (i := 1) (N := some 96) (v := ?_) (a' := ?_) B6_ rfl rfl (by kernel_rfl) (fun _ _ _ h => h) (Or.inl ⟨by rfl, ?_⟩) hHeld ?_ ?_
      rotate_left; · rintro w' ⟨s0, s1, s2, s3, s4, s5, s6⟩; go_simp; with_reducible rfl
      rotate_left; · simp only [Act.put, q1_, q2_, q3_, i64_w, i32_w]; rfl
      refine one_ (i := 2) (N := some 97) B7_ rfl rfl (by kernel_rfl) (by decide) (fun K hK => ?_)
      refine goesT_ Try.func75 (by kernel_rfl) rfl #[.agg #[.int .i64 a0, .int .i64 a1, .int .i64 a2, .int .i64 a3, .int .i64 a4, .int .i64 a5], .pointer (some ⟨gG, 0, none⟩)] (by rfl) rfl rfl rfl (by simp only [List.map_toArray, List.map_cons, List.map_nil]; rfl) ?_
      with_reducible refine (grow_calls gG gr a0 a1 a2 a3 a4 a5 _ KG4d.out).mono ?_
      rw [HFV.out]
      rintro e w5 ⟨rfl, hb⟩
      refine ⟨_, rfl, ?_⟩
      have HM5 := Aside0.mk (HM4d.out.below hb)
      have KG5 := Aside0.mk (blk_below KG4d.out hb)
      have KX5 := Aside0.mk (blk_below KX4d.out hb)
      clear hb
      refine hK.out _ _ ⟨(blk_cell KG5.out 0).trans rfl, (blk_cell KX5.out 0).trans rfl, (blk_cell KX5.out 1).trans rfl, (blk_cell KX5.out 2).trans rfl, (blk_cell KX5.out 3).trans rfl, (blk_cell KX5.out 4).trans rfl, (blk_cell KX5.out 5).trans rfl⟩ (fun hHeld => ?_)
      clear hK K
      refine norm_ (a' := ?_) ?_ ?_
      rotate_left
      ·
       show Act.put _ (some 97) _ = _
       simp only [Act.put, q1_, q2_, q3_, i64_w, i32_w]
       rfl
      refine pure_ (i := 3) (N := some 98) (v := ?_) (a' := ?_) B8_ rfl rfl (by kernel_rfl) (fun _ _ _ h => h) (Or.inl ⟨by rfl, ?_⟩) ?_ ?_
      rotate_left; · intro w'; go_simp; with_reducible rfl
      rotate_left; · simp only [Act.put, q1_, q2_, q3_, i64_w, i32_w]; rfl
      refine pure_ (i := 4) (N := some 99) (v := ?_) (a' := ?_) B9_ rfl rfl (by kernel_rfl) (fun _ _ _ h => h) (Or.inl ⟨by rfl, ?_⟩) ?_ ?_
      rotate_left; · intro w'; go_simp; with_reducible rfl
      rotate_left; · simp only [Act.put, q1_, q2_, q3_, i64_w, i32_w]; rfl
      refine pure_ (i := 5) (N := some 100) (v := undef) (a' := ?_) B10_ rfl rfl (by kernel_rfl) (fun _ _ _ h => h) (Or.inr ⟨by rfl, rfl⟩) ?_ ?_
      rotate_left; · simp only [Act.put, q1_, q2_, q3_, i64_w, i32_w]; rfl
      refine pure_ (i := 6) (N := some 101) (v := undef) (a' := ?_) B11_ rfl rfl (by kernel_rfl) (fun _ _ _ h => h) (Or.inr ⟨by rfl, rfl⟩) ?_ ?_
      rotate_left; · simp only [Act.put, q1_, q2_, q3_, i64_w, i32_w]; rfl
      refine pure_ (i := 7) (N := some 102) (v := undef) (a' := ?_) B12_ rfl rfl (by kernel_rfl) (fun _ _ _ h => h) (Or.inr ⟨by rfl, rfl⟩) ?_ ?_
      rotate_left; · simp only [Act.put, q1_, q2_, q3_, i64_w, i32_w]; rfl
      refine pure_ (i := 8) (N := some 103) (v := undef) (a' := ?_) B13_ rfl rfl (by kernel_rfl) (fun _ _ _ h => h) (Or.inr ⟨by rfl, rfl⟩) ?_ ?_
      rotate_left; · simp only [Act.put, q1_, q2_, q3_, i64_w, i32_w]; rfl
      refine pure_ (i := 9) (N := some 104) (v := undef) (a' := ?_) B14_ rfl rfl (by kernel_rfl) (fun _ _ _ h => h) (Or.inr ⟨by rfl, rfl⟩) ?_ ?_
      rotate_left; · simp only [Act.put, q1_, q2_, q3_, i64_w, i32_w]; rfl
      refine pure_ (i := 10) (N := some 105) (v := undef) (a' := ?_) B15_ rfl rfl (by kernel_rfl) (fun _ _ _ h => h) (Or.inr ⟨by rfl, rfl⟩) ?_ ?_
      rotate_left; · simp only [Act.put, q1_, q2_, q3_, i64_w, i32_w]; rfl
      refine pure_ (i := 11) (N := some 106) (v := undef) (a' := ?_) B16_ rfl rfl (by kernel_rfl) (fun _ _ _ h => h) (Or.inr ⟨by rfl, rfl⟩) ?_ ?_
      rotate_left; · simp only [Act.put, q1_, q2_, q3_, i64_w, i32_w]; rfl
      refine pure_ (i := 12) (N := some 107) (v := undef) (a' := ?_) B17_ rfl rfl (by kernel_rfl) (fun _ _ _ h => h) (Or.inr ⟨by rfl, rfl⟩) ?_ ?_
      rotate_left; · simp only [Act.put, q1_, q2_, q3_, i64_w, i32_w]; rfl
      refine pure_ (i := 13) (N := some 108) (v := ?_) (a' := ?_) B18_ rfl rfl (by kernel_rfl) (fun _ _ _ h => h) (Or.inl ⟨by rfl, ?_⟩) ?_ ?_
      rotate_left; · intro w'; go_simp; with_reducible rfl
      rotate_left; · simp only [Act.put, q1_, q2_, q3_, i64_w, i32_w]; rfl
      refine pure_ (i := 14) (N := some 109) (v := ?_) (a' := ?_) B19_ rfl rfl (by kernel_rfl) (fun _ _ _ h => h) (Or.inl ⟨by rfl, ?_⟩) ?_ ?_
      rotate_left; · intro w'; go_simp; with_reducible rfl
      rotate_left; · simp only [Act.put, q1_, q2_, q3_, i64_w, i32_w]; rfl
      refine pure_ (i := 15) (N := some 110) (v := undef) (a' := ?_) B20_ rfl rfl (by kernel_rfl) (fun _ _ _ h => h) (Or.inr ⟨by rfl, rfl⟩) ?_ ?_
      rotate_left; · simp only [Act.put, q1_, q2_, q3_, i64_w, i32_w]; rfl
      refine pure_ (i := 16) (N := some 111) (v := undef) (a' := ?_) B21_ rfl rfl (by kernel_rfl) (fun _ _ _ h => h) (Or.inr ⟨by rfl, rfl⟩) ?_ ?_
      rotate_left; · simp only [Act.put, q1_, q2_, q3_, i64_w, i32_w]; rfl
      refine pure_ (i := 17) (N := some 112) (v := undef) (a' := ?_) B22_ rfl rfl (by kernel_rfl) (fun _ _ _ h => h) (Or.inr ⟨by rfl, rfl⟩) ?_ ?_
      rotate_left; · simp only [Act.put, q1_, q2_, q3_, i64_w, i32_w]; rfl
      refine pure_ (i := 18) (N := some 113) (v := undef) (a' := ?_) B23_ rfl rfl (by kernel_rfl) (fun _ _ _ h => h) (Or.inr ⟨by rfl, rfl⟩) ?_ ?_
      rotate_left; · simp only [Act.put, q1_, q2_, q3_, i64_w, i32_w]; rfl
      refine pure_ (i := 19) (N := some 114) (v := undef) (a' := ?_) B24_ rfl rfl (by kernel_rfl) (fun _ _ _ h => h) (Or.inr ⟨by rfl, rfl⟩) ?_ ?_
      rotate_left; · simp only [Act.put, q1_, q2_, q3_, i64_w, i32_w]; rfl
      refine pure_ (i := 20) (N := some 115) (v := undef) (a' := ?_) B25_ rfl rfl (by kernel_rfl) (fun _ _ _ h => h) (Or.inr ⟨by rfl, rfl⟩) ?_ ?_
      rotate_left; · simp only [Act.put, q1_, q2_, q3_, i64_w, i32_w]; rfl
      refine pure_ (i := 21) (N := some 116) (v := undef) (a' := ?_) B26_ rfl rfl (by kernel_rfl) (fun _ _ _ h => h) (Or.inr ⟨by rfl, rfl⟩) ?_ ?_
      rotate_left; · simp only [Act.put, q1_, q2_, q3_, i64_w, i32_w]; rfl
      refine pure_ (i := 22) (N := some 117) (v := undef) (a' := ?_) B27_ rfl rfl (by kernel_rfl) (fun _ _ _ h => h) (Or.inr ⟨by rfl, rfl⟩) ?_ ?_
      rotate_left; · simp only [Act.put, q1_, q2_, q3_, i64_w, i32_w]; rfl
      refine pure_ (i := 23) (N := some 118) (v := undef) (a' := ?_) B28_ rfl rfl (by kernel_rfl) (fun _ _ _ h => h) (Or.inr ⟨by rfl, rfl⟩) ?_ ?_
      rotate_left; · simp only [Act.put, q1_, q2_, q3_, i64_w, i32_w]; rfl
      refine pure_ (i := 24) (N := some 119) (v := ?_) (a' := ?_) B29_ rfl rfl (by kernel_rfl) (fun _ _ _ h => h) (Or.inl ⟨by rfl, ?_⟩) ?_ ?_
      rotate_left; · intro w'; go_simp; with_reducible rfl
      rotate_left; · simp only [Act.put, q1_, q2_, q3_, i64_w, i32_w]; rfl
      refine done_ (by kernel_rfl) ?_
      go_wp2
      have HMd := Aside0.mk HM5.out.drew
      have KGd : Aside0 (w5.drew.heap[gG]? = _) := ⟨KG5.out⟩
      have KXd : Aside0 (w5.drew.heap[gx]? = _) := ⟨KX5.out⟩
      have NXT : Aside0 (gx ≠ gt) := ⟨by have h1 := NGX.out gt (HM.out.RT.1 gt rfl); have h2 := HGX.out; omega⟩
      have NXS : Aside0 (gx ≠ gs) := ⟨by have h1 := NGX.out gs (HM.out.RS.1 gs rfl); have h2 := HGX.out; omega⟩
      have NGT : Aside0 (gG ≠ gt) := ⟨by have h1 := HM.out.RT.1 gt rfl; have h2 := GG.out; omega⟩
      have NGS : Aside0 (gG ≠ gs) := ⟨by have h1 := HM.out.RS.1 gs rfl; have h2 := GG.out; omega⟩
      refine start_ (n := 10) (S := fun w' => w'.cell? ⟨g8, 0, none⟩ = some (.slice (some ⟨gt, 0, none⟩) n c5) ∧ w'.cell? ⟨g7, 0, none⟩ = some (.slice (some ⟨gs, 0, none⟩) n c3) ∧ w'.cell? ⟨gx, 0, none⟩ = some (.int .i64 a0) ∧ w'.cell? ⟨gx, 1, none⟩ = some (.int .i64 a1) ∧ w'.cell? ⟨gx, 2, none⟩ = some (.int .i64 a2) ∧ w'.cell? ⟨gx, 3, none⟩ = some (.int .i64 a3) ∧ w'.cell? ⟨gx, 4, none⟩ = some (.int .i64 a4) ∧ w'.cell? ⟨gx, 5, none⟩ = some (.int .i64 a5)) (ds := []) B30_ (by kernel_rfl) rfl rfl ⟨(HMd.out).cT, (HMd.out).cS, (blk_cell KXd.out 0).trans rfl, (blk_cell KXd.out 1).trans rfl, (blk_cell KXd.out 2).trans rfl, (blk_cell KXd.out 3).trans rfl, (blk_cell KXd.out 4).trans rfl, (blk_cell KXd.out 5).trans rfl⟩ (fun hHeld => ?_)
      refine pure_ (i := 1) (N := some 121) (v := ?_) (a' := ?_) B31_ rfl rfl (by kernel_rfl) (fun _ _ _ h => h) (Or.inl ⟨by rfl, ?_⟩) ?_ ?_
      rotate_left; · intro w'; go_simp; with_reducible rfl
      rotate_left; · simp only [Act.put, q1_, q2_, q3_, i64_w, i32_w]; rfl
      refine pure_ (i := 3) (N := some 123) (v := ?_) (a' := ?_) B32_ rfl rfl (by kernel_rfl) (fun _ _ _ h => h) (Or.inl ⟨by rfl, ?_⟩) ?_ ?_
      rotate_left; · intro w'; go_simp; with_reducible rfl
      rotate_left; · simp only [Act.put, q1_, q2_, q3_, i64_w, i32_w]; rfl
      refine take_ (i := 0) (N := some 120) (v := ?_) (a' := ?_) B33_ rfl rfl (by kernel_rfl) (fun _ _ _ h => h) (Or.inl ⟨by rfl, ?_⟩) hHeld ?_ ?_
      rotate_left; · rintro w' ⟨s0, s1, s2, s3, s4, s5, s6, s7⟩; go_simp; with_reducible rfl
      rotate_left; · simp only [Act.put, q1_, q2_, q3_, i64_w, i32_w]; rfl
      refine take_ (i := 2) (N := some 122) (v := ?_) (a' := ?_) B34_ rfl rfl (by kernel_rfl) (fun _ _ _ h => h) (Or.inl ⟨by rfl, ?_⟩) hHeld ?_ ?_
      rotate_left; · rintro w' ⟨s0, s1, s2, s3, s4, s5, s6, s7⟩; go_simp; with_reducible rfl
      rotate_left; · simp only [Act.put, q1_, q2_, q3_, i64_w, i32_w]; rfl
      refine take_ (i := 4) (N := some 124) (v := ?_) (a' := ?_) B35_ rfl rfl (by kernel_rfl) (fun _ _ _ h => h) (Or.inl ⟨by rfl, ?_⟩) hHeld ?_ ?_
      rotate_left; · rintro w' ⟨s0, s1, s2, s3, s4, s5, s6, s7⟩; go_simp; with_reducible rfl
      rotate_left; · simp only [Act.put, q1_, q2_, q3_, i64_w, i32_w]; rfl
      refine one_ (i := 5) (N := some 125) B36_ rfl rfl (by kernel_rfl) (by decide) (fun K hK => ?_)
      refine goes_ Try.func74 (by kernel_rfl) rfl #[.agg #[.int .i64 a0, .int .i64 a1, .int .i64 a2, .int .i64 a3, .int .i64 a4, .int .i64 a5]] (by rfl) rfl rfl (by simp only [List.map_toArray, List.map_cons, List.map_nil]; rfl) ?_
      with_reducible refine (rlong_calls a0 a1 a2 a3 a4 a5 _).mono ?_
      rintro e w7 ⟨rfl, hb⟩
      refine ⟨_, rfl, ?_⟩
      rw [HLGX.out]
      have HM9 := Aside0.mk (HMd.out.below hb)
      have KG9 := Aside0.mk (blk_below KGd.out hb)
      have KX9 := Aside0.mk (blk_below KXd.out hb)
      clear hb
      obtain ⟨ct_, ft_⟩ := Kd.R_celln false HM9.out.RT (k : Int) (by omega) (by omega)
      obtain ⟨cs_, fs_⟩ := Kd.R_celln (0 : Int) HM9.out.RS (k : Int) (by omega) (by omega)
      simp only [Int.toNat_natCast] at ct_ ft_ cs_ fs_
      have cs2_ : (w7.setCell ⟨gt, k, none⟩ (.bool true)).cell? ⟨gs, k, none⟩ = _ := (Kd.R_celln (0 : Int) (HM9.out.stPut k true).RS (k : Int) (by omega) (by omega)).1
      have fs2_ : (w7.setCell ⟨gt, k, none⟩ (.bool true)).frozen? ⟨gs, k, none⟩ = false := (Kd.R_celln (0 : Int) (HM9.out.stPut k true).RS (k : Int) (by omega) (by omega)).2
      refine hK.out _ _ ⟨(HM9.out).cT, (HM9.out).cS, (blk_cell KX9.out 0).trans rfl, (blk_cell KX9.out 1).trans rfl, (blk_cell KX9.out 2).trans rfl, (blk_cell KX9.out 3).trans rfl, (blk_cell KX9.out 4).trans rfl, (blk_cell KX9.out 5).trans rfl⟩ (fun hHeld => ?_)
      clear hK K
      refine norm_ (a' := ?_) ?_ ?_
      rotate_left
      ·
       show Act.put _ (some 125) _ = _
       simp only [Act.put, q1_, q2_, q3_, i64_w, i32_w]
       rfl
      refine pure_ (i := 6) (N := some 126) (v := ?_) (a' := ?_) B37_ rfl rfl (by kernel_rfl) (fun _ _ _ h => h) (Or.inl ⟨by rfl, ?_⟩) ?_ ?_
      rotate_left; · intro w'; go_simp; with_reducible rfl
      rotate_left; · simp only [Act.put, q1_, q2_, q3_, i64_w, i32_w]; rfl
      refine one_ (i := 7) (N := none) B38_ rfl rfl (by kernel_rfl) (by decide) (fun K hK => ?_)
      refine skip_ (w1 := ?_) (by rfl) rfl ?_ ?_
      rotate_left
      ·
       go_simp
       rfl
      refine hK.out _ _ ⟨(HM9.out.stPut k true).cT, (HM9.out.stPut k true).cS, (blk_cell (blk_far (p := ⟨gt, k, none⟩) KX9.out NXT.out (.bool true)) 0).trans rfl, (blk_cell (blk_far (p := ⟨gt, k, none⟩) KX9.out NXT.out (.bool true)) 1).trans rfl, (blk_cell (blk_far (p := ⟨gt, k, none⟩) KX9.out NXT.out (.bool true)) 2).trans rfl, (blk_cell (blk_far (p := ⟨gt, k, none⟩) KX9.out NXT.out (.bool true)) 3).trans rfl, (blk_cell (blk_far (p := ⟨gt, k, none⟩) KX9.out NXT.out (.bool true)) 4).trans rfl, (blk_cell (blk_far (p := ⟨gt, k, none⟩) KX9.out NXT.out (.bool true)) 5).trans rfl⟩ (fun hHeld => ?_)
      clear hK K
      refine pure_ (i := 8) (N := some 127) (v := ?_) (a' := ?_) B39_ rfl rfl (by kernel_rfl) (fun _ _ _ h => h) (Or.inl ⟨by rfl, ?_⟩) ?_ ?_
      rotate_left; · intro w'; go_simp; with_reducible rfl
      rotate_left; · simp only [Act.put, q1_, q2_, q3_, i64_w, i32_w]; rfl
      refine one_ (i := 9) (N := none) B40_ rfl rfl (by kernel_rfl) (by decide) (fun K hK => ?_)
      refine skip_ (w1 := ?_) (by rfl) rfl ?_ ?_
      rotate_left
      ·
       go_simp
       rfl
      refine hK.out _ _ ⟨((HM9.out.stPut k true).isPut k lg).cT, ((HM9.out.stPut k true).isPut k lg).cS, (blk_cell (blk_far (p := ⟨gs, k, none⟩) (blk_far (p := ⟨gt, k, none⟩) KX9.out NXT.out (.bool true)) NXS.out (.int .i64 lg)) 0).trans rfl, (blk_cell (blk_far (p := ⟨gs, k, none⟩) (blk_far (p := ⟨gt, k, none⟩) KX9.out NXT.out (.bool true)) NXS.out (.int .i64 lg)) 1).trans rfl, (blk_cell (blk_far (p := ⟨gs, k, none⟩) (blk_far (p := ⟨gt, k, none⟩) KX9.out NXT.out (.bool true)) NXS.out (.int .i64 lg)) 2).trans rfl, (blk_cell (blk_far (p := ⟨gs, k, none⟩) (blk_far (p := ⟨gt, k, none⟩) KX9.out NXT.out (.bool true)) NXS.out (.int .i64 lg)) 3).trans rfl, (blk_cell (blk_far (p := ⟨gs, k, none⟩) (blk_far (p := ⟨gt, k, none⟩) KX9.out NXT.out (.bool true)) NXS.out (.int .i64 lg)) 4).trans rfl, (blk_cell (blk_far (p := ⟨gs, k, none⟩) (blk_far (p := ⟨gt, k, none⟩) KX9.out NXT.out (.bool true)) NXS.out (.int .i64 lg)) 5).trans rfl⟩ (fun hHeld => ?_)
      clear hK K
      refine done_ (by kernel_rfl) ?_
      have HM10 := Aside0.mk ((HM9.out.stPut k true).isPut k lg)
      have KG10 := Aside0.mk (blk_far (p := ⟨gs, k, none⟩) (blk_far (p := ⟨gt, k, none⟩) KG9.out NGT.out (.bool true)) NGS.out (.int .i64 lg))
      clear ct_ ft_ cs_ fs_ cs2_ fs2_
      go_wp2
      go_roundw
      case rel => exact ⟨k + 1, by omega, by go_num, ⟨by rw [HS1.out, HS2.out]; exact HM10.out⟩, ⟨KG10.out⟩⟩
      case measure => simp [intOf]; omega
    have e0 : (fv == 0) = false := beq_eq_false_iff_ne.mpr h0
    clear h0
    cases gr
    ·
     by_cases h1 : a0 < lg
     ·
      have e1 : decide (a0 < lg) = true := decide_eq_true h1
      clear h1
      as_aux_lemma =>
       have HT : Aside0 (atO false ⟨a0, a1, a2, a3, a4, a5⟩ = true) := ⟨by rw [HAT.out, e0, e1]; first | rfl | simp⟩
       rw [HT.out] at HS1 HS2
       go_wp2_with (first | ((with_reducible refine gate_dst (N := 18) rfl ?_); refine box_event rfl (N := 18) rfl (cs := #[.int .i64 0, .int .i64 0, .int .i64 0, .int .i64 0, .int .i64 0, .int .i64 0]) (t := 91) (by first | (go_simp; done) | (go_simp; rfl)) ?_; intro gx hgx w3 hbx hb; have KX0 := Aside0.mk hbx; have HGX : Aside0 (wr.heap.size ≤ gx) := ⟨by omega⟩; have BX := Aside0.mk hb; clear hgx hbx hb) | ((with_reducible refine gate_store (t := 91) (p := 18) rfl ?_); refine store_event (t := 91) (p := 18) (w1 := w3.setCells gx 0 (#[.int .i64 a0, .int .i64 a1, .int .i64 a2, .int .i64 a3, .int .i64 a4, .int .i64 a5] : Array Value).toList) rfl rfl rfl (store_run 91 (.tmp 18) (.tmp 94) gx #[.int .i64 a0, .int .i64 a1, .int .i64 a2, .int .i64 a3, .int .i64 a4, .int .i64 a5] rfl rfl rfl (there_row KX0.out _ (Nat.le_refl 6)) (by kernel_rfl) (all_oneCell_toArray (cs := [.int .i64 a0, .int .i64 a1, .int .i64 a2, .int .i64 a3, .int .i64 a4, .int .i64 a5]) (by intro v hv; simp only [List.mem_cons, List.not_mem_nil, or_false] at hv; rcases hv with rfl | rfl | rfl | rfl | rfl | rfl <;> rfl))) ?_; intro w4 hw3; have KX : Aside0 (w4.heap[gx]? = some (.cells #[.int .i64 a0, .int .i64 a1, .int .i64 a2, .int .i64 a3, .int .i64 a4, .int .i64 a5] 91 (0, 0))) := ⟨by rw [hw3]; exact sets_row KX0.out rfl⟩; have BX3 : Aside0 (Below wr.heap.size wr w4) := ⟨by rw [hw3]; exact sets_below HGX.out _ 0 _ BX.out⟩; clear hw3; have cx0 : w4.cell? ⟨gx, 0, none⟩ = some (.int .i64 a0) := (blk_cell KX.out 0).trans rfl; have cx1 : w4.cell? ⟨gx, 1, none⟩ = some (.int .i64 a1) := (blk_cell KX.out 1).trans rfl; have cx2 : w4.cell? ⟨gx, 2, none⟩ = some (.int .i64 a2) := (blk_cell KX.out 2).trans rfl; have cx3 : w4.cell? ⟨gx, 3, none⟩ = some (.int .i64 a3) := (blk_cell KX.out 3).trans rfl; have cx4 : w4.cell? ⟨gx, 4, none⟩ = some (.int .i64 a4) := (blk_cell KX.out 4).trans rfl; have cx5 : w4.cell? ⟨gx, 5, none⟩ = some (.int .i64 a5) := (blk_cell KX.out 5).trans rfl; have HM4 := Aside0.mk (HM.out.below BX3.out); have KG4 := Aside0.mk (blk_below KG.out BX3.out)))
       clear cx0 cx1 cx2 cx3 cx4 cx5 hx0 hx1 hx2 hx3 hx4 hx5
       have KG4d : Aside0 (w4.drew.heap[gG]? = _) := ⟨KG4.out⟩
       have KX4d : Aside0 (w4.drew.heap[gx]? = _) := ⟨KX.out⟩
       have HM4d := Aside0.mk HM4.out.drew
       refine start_ (n := 25) (S := fun w' => w'.cell? ⟨gG, 0, none⟩ = some (.bool false) ∧ w'.cell? ⟨gx, 0, none⟩ = some (.int .i64 a0) ∧ w'.cell? ⟨gx, 1, none⟩ = some (.int .i64 a1) ∧ w'.cell? ⟨gx, 2, none⟩ = some (.int .i64 a2) ∧ w'.cell? ⟨gx, 3, none⟩ = some (.int .i64 a3) ∧ w'.cell? ⟨gx, 4, none⟩ = some (.int .i64 a4) ∧ w'.cell? ⟨gx, 5, none⟩ = some (.int .i64 a5)) (ds := []) B4_ (by kernel_rfl) rfl rfl ⟨(blk_cell KG4d.out 0).trans rfl, (blk_cell KX4d.out 0).trans rfl, (blk_cell KX4d.out 1).trans rfl, (blk_cell KX4d.out 2).trans rfl, (blk_cell KX4d.out 3).trans rfl, (blk_cell KX4d.out 4).trans rfl, (blk_cell KX4d.out 5).trans rfl⟩ (fun hHeld => ?_)
       refine pure_ (i := 0) (N := some 95) (v := ?_) (a' := ?_) B5_ rfl rfl (by kernel_rfl) (fun _ _ _ h => h) (Or.inl ⟨by rfl, ?_⟩) ?_ ?_
       rotate_left; · intro w'; go_simp; with_reducible rfl
       rotate_left; · simp only [Act.put, q1_, q2_, q3_, i64_w, i32_w]; rfl
       refine take_ (i := 1) (N := some 96) (v := ?_) (a' := ?_) B6_ rfl rfl (by kernel_rfl) (fun _ _ _ h => h) (Or.inl ⟨by rfl, ?_⟩) hHeld ?_ ?_
       rotate_left; · rintro w' ⟨s0, s1, s2, s3, s4, s5, s6⟩; go_simp; with_reducible rfl
       rotate_left; · simp only [Act.put, q1_, q2_, q3_, i64_w, i32_w]; rfl
       refine one_ (i := 2) (N := some 97) B7_ rfl rfl (by kernel_rfl) (by decide) (fun K hK => ?_)
       refine goesT_ Try.func75 (by kernel_rfl) rfl #[.agg #[.int .i64 a0, .int .i64 a1, .int .i64 a2, .int .i64 a3, .int .i64 a4, .int .i64 a5], .pointer (some ⟨gG, 0, none⟩)] (by rfl) rfl rfl rfl (by simp only [List.map_toArray, List.map_cons, List.map_nil]; rfl) ?_
       with_reducible refine (grow_calls gG false a0 a1 a2 a3 a4 a5 _ KG4d.out).mono ?_
       rw [HFV.out]
       rintro e w5 ⟨rfl, hb⟩
       refine ⟨_, rfl, ?_⟩
       have HM5 := Aside0.mk (HM4d.out.below hb)
       have KG5 := Aside0.mk (blk_below KG4d.out hb)
       have KX5 := Aside0.mk (blk_below KX4d.out hb)
       clear hb
       refine hK.out _ _ ⟨(blk_cell KG5.out 0).trans rfl, (blk_cell KX5.out 0).trans rfl, (blk_cell KX5.out 1).trans rfl, (blk_cell KX5.out 2).trans rfl, (blk_cell KX5.out 3).trans rfl, (blk_cell KX5.out 4).trans rfl, (blk_cell KX5.out 5).trans rfl⟩ (fun hHeld => ?_)
       clear hK K
       refine norm_ (a' := ?_) ?_ ?_
       rotate_left
       ·
        show Act.put _ (some 97) _ = _
        simp only [Act.put, q1_, q2_, q3_, i64_w, i32_w]
        rfl
       refine pure_ (i := 3) (N := some 98) (v := ?_) (a' := ?_) B8_ rfl rfl (by kernel_rfl) (fun _ _ _ h => h) (Or.inl ⟨by rfl, ?_⟩) ?_ ?_
       rotate_left; · intro w'; go_simp; with_reducible rfl
       rotate_left; · simp only [Act.put, q1_, q2_, q3_, i64_w, i32_w]; rfl
       refine pure_ (i := 4) (N := some 99) (v := ?_) (a' := ?_) B9_ rfl rfl (by kernel_rfl) (fun _ _ _ h => h) (Or.inl ⟨by rfl, ?_⟩) ?_ ?_
       rotate_left; · intro w'; go_simp; with_reducible rfl
       rotate_left; · simp only [Act.put, q1_, q2_, q3_, i64_w, i32_w]; rfl
       refine take_ (i := 5) (N := some 100) (v := ?_) (a' := ?_) B10_ rfl rfl (by kernel_rfl) (fun _ _ _ h => h) (Or.inl ⟨by rfl, ?_⟩) hHeld ?_ ?_
       rotate_left; · rintro w' ⟨s0, s1, s2, s3, s4, s5, s6⟩; go_simp; with_reducible rfl
       rotate_left; · simp only [Act.put, q1_, q2_, q3_, i64_w, i32_w]; rfl
       refine pure_ (i := 6) (N := some 101) (v := ?_) (a' := ?_) B11_ rfl rfl (by kernel_rfl) (fun _ _ _ h => h) (Or.inl ⟨by rfl, ?_⟩) ?_ ?_
       rotate_left; · intro w'; go_simp; with_reducible rfl
       rotate_left; · simp only [Act.put, q1_, q2_, q3_, i64_w, i32_w]; rfl
       refine pure_ (i := 7) (N := some 102) (v := undef) (a' := ?_) B12_ rfl rfl (by kernel_rfl) (fun _ _ _ h => h) (Or.inr ⟨by rfl, rfl⟩) ?_ ?_
       rotate_left; · simp only [Act.put, q1_, q2_, q3_, i64_w, i32_w]; rfl
       refine pure_ (i := 8) (N := some 103) (v := undef) (a' := ?_) B13_ rfl rfl (by kernel_rfl) (fun _ _ _ h => h) (Or.inr ⟨by rfl, rfl⟩) ?_ ?_
       rotate_left; · simp only [Act.put, q1_, q2_, q3_, i64_w, i32_w]; rfl
       refine pure_ (i := 9) (N := some 104) (v := undef) (a' := ?_) B14_ rfl rfl (by kernel_rfl) (fun _ _ _ h => h) (Or.inr ⟨by rfl, rfl⟩) ?_ ?_
       rotate_left; · simp only [Act.put, q1_, q2_, q3_, i64_w, i32_w]; rfl
       refine pure_ (i := 10) (N := some 105) (v := undef) (a' := ?_) B15_ rfl rfl (by kernel_rfl) (fun _ _ _ h => h) (Or.inr ⟨by rfl, rfl⟩) ?_ ?_
       rotate_left; · simp only [Act.put, q1_, q2_, q3_, i64_w, i32_w]; rfl
       refine pure_ (i := 11) (N := some 106) (v := undef) (a' := ?_) B16_ rfl rfl (by kernel_rfl) (fun _ _ _ h => h) (Or.inr ⟨by rfl, rfl⟩) ?_ ?_
       rotate_left; · simp only [Act.put, q1_, q2_, q3_, i64_w, i32_w]; rfl
       refine pure_ (i := 12) (N := some 107) (v := ?_) (a' := ?_) B17_ rfl rfl (by kernel_rfl) (fun _ _ _ h => h) (Or.inl ⟨by rfl, ?_⟩) ?_ ?_
       rotate_left; · intro w'; go_simp; with_reducible rfl
       rotate_left; · simp only [Act.put, q1_, q2_, q3_, i64_w, i32_w]; rfl
       refine pure_ (i := 13) (N := some 108) (v := ?_) (a' := ?_) B18_ rfl rfl (by kernel_rfl) (fun _ _ _ h => h) (Or.inl ⟨by rfl, ?_⟩) ?_ ?_
       rotate_left; · intro w'; go_simp; with_reducible rfl
       rotate_left; · simp only [Act.put, q1_, q2_, q3_, i64_w, i32_w]; rfl
       refine pure_ (i := 14) (N := some 109) (v := ?_) (a' := ?_) B19_ rfl rfl (by kernel_rfl) (fun _ _ _ h => h) (Or.inl ⟨by rfl, ?_⟩) ?_ ?_
       rotate_left; · intro w'; go_simp; with_reducible rfl
       rotate_left; · simp only [Act.put, q1_, q2_, q3_, i64_w, i32_w]; rfl
       refine take_ (i := 15) (N := some 110) (v := ?_) (a' := ?_) B20_ rfl rfl (by kernel_rfl) (fun _ _ _ h => h) (Or.inl ⟨by rfl, ?_⟩) hHeld ?_ ?_
       rotate_left; · rintro w' ⟨s0, s1, s2, s3, s4, s5, s6⟩; go_simp; with_reducible rfl
       rotate_left; · simp only [Act.put, q1_, q2_, q3_, i64_w, i32_w]; rfl
       refine pure_ (i := 16) (N := some 111) (v := ?_) (a' := ?_) B21_ rfl rfl (by kernel_rfl) (fun _ _ _ h => h) (Or.inl ⟨by rfl, ?_⟩) ?_ ?_
       rotate_left; · intro w'; go_simp; with_reducible rfl
       rotate_left; · simp only [Act.put, q1_, q2_, q3_, i64_w, i32_w]; rfl
       refine pure_ (i := 17) (N := some 112) (v := ?_) (a' := ?_) B22_ rfl rfl (by kernel_rfl) (fun _ _ _ h => h) (Or.inl ⟨by rfl, ?_⟩) ?_ ?_
       rotate_left; · intro w'; go_simp; with_reducible rfl
       rotate_left; · simp only [Act.put, q1_, q2_, q3_, i64_w, i32_w]; rfl
       refine pure_ (i := 18) (N := some 113) (v := ?_) (a' := ?_) B23_ rfl rfl (by kernel_rfl) (fun _ _ _ h => h) (Or.inl ⟨by rfl, ?_⟩) ?_ ?_
       rotate_left; · intro w'; go_simp; with_reducible rfl
       rotate_left; · simp only [Act.put, q1_, q2_, q3_, i64_w, i32_w]; rfl
       refine take_ (i := 19) (N := some 114) (v := ?_) (a' := ?_) B24_ rfl rfl (by kernel_rfl) (fun _ _ _ h => h) (Or.inl ⟨by rfl, ?_⟩) hHeld ?_ ?_
       rotate_left; · rintro w' ⟨s0, s1, s2, s3, s4, s5, s6⟩; go_simp; with_reducible rfl
       rotate_left; · simp only [Act.put, q1_, q2_, q3_, i64_w, i32_w]; rfl
       refine take_ (i := 20) (N := some 115) (v := ?_) (a' := ?_) B25_ rfl rfl (by kernel_rfl) (fun _ _ _ h => h) (Or.inl ⟨by rfl, ?_⟩) hHeld ?_ ?_
       rotate_left; · rintro w' ⟨s0, s1, s2, s3, s4, s5, s6⟩; go_simp; with_reducible rfl
       rotate_left; · simp only [Act.put, q1_, q2_, q3_, i64_w, i32_w]; rfl
       refine one_ (i := 21) (N := some 116) B26_ rfl rfl (by kernel_rfl) (by decide) (fun K hK => ?_)
       refine goes_ Try.func74 (by kernel_rfl) rfl #[.agg #[.int .i64 a0, .int .i64 a1, .int .i64 a2, .int .i64 a3, .int .i64 a4, .int .i64 a5]] (by rfl) rfl rfl (by simp only [List.map_toArray, List.map_cons, List.map_nil]; rfl) ?_
       with_reducible refine (rlong_calls a0 a1 a2 a3 a4 a5 _).mono ?_
       rintro e w6 ⟨rfl, hb⟩
       refine ⟨_, rfl, ?_⟩
       rw [HLGX.out]
       have HM6 := Aside0.mk (HM5.out.below hb)
       have KG6 := Aside0.mk (blk_below KG5.out hb)
       have KX6 := Aside0.mk (blk_below KX5.out hb)
       clear hb
       refine hK.out _ _ ⟨(blk_cell KG6.out 0).trans rfl, (blk_cell KX6.out 0).trans rfl, (blk_cell KX6.out 1).trans rfl, (blk_cell KX6.out 2).trans rfl, (blk_cell KX6.out 3).trans rfl, (blk_cell KX6.out 4).trans rfl, (blk_cell KX6.out 5).trans rfl⟩ (fun hHeld => ?_)
       clear hK K
       refine norm_ (a' := ?_) ?_ ?_
       rotate_left
       ·
        show Act.put _ (some 116) _ = _
        simp only [Act.put, q1_, q2_, q3_, i64_w, i32_w]
        rfl
       refine pure_ (i := 22) (N := some 117) (v := ?_) (a' := ?_) B27_ rfl rfl (by kernel_rfl) (fun _ _ _ h => h) (Or.inl ⟨by rfl, ?_⟩) ?_ ?_
       rotate_left; · intro w'; go_simp; with_reducible rfl
       rotate_left; · simp only [Act.put, q1_, q2_, q3_, i64_w, i32_w]; rfl
       refine pure_ (i := 23) (N := some 118) (v := ?_) (a' := ?_) B28_ rfl rfl (by kernel_rfl) (fun _ _ _ h => h) (Or.inl ⟨by rfl, ?_⟩) ?_ ?_
       rotate_left; · intro w'; go_simp; with_reducible rfl
       rotate_left; · simp only [Act.put, q1_, q2_, q3_, i64_w, i32_w]; rfl
       refine pure_ (i := 24) (N := some 119) (v := ?_) (a' := ?_) B29_ rfl rfl (by kernel_rfl) (fun _ _ _ h => h) (Or.inl ⟨by rfl, ?_⟩) ?_ ?_
       rotate_left; · intro w'; go_simp; with_reducible rfl
       rotate_left; · simp only [Act.put, q1_, q2_, q3_, i64_w, i32_w]; rfl
       refine done_ (by kernel_rfl) ?_
       go_wp2
       have HMd := Aside0.mk HM6.out.drew
       have KGd : Aside0 (w6.drew.heap[gG]? = _) := ⟨KG6.out⟩
       have KXd : Aside0 (w6.drew.heap[gx]? = _) := ⟨KX6.out⟩
       have NXT : Aside0 (gx ≠ gt) := ⟨by have h1 := NGX.out gt (HM.out.RT.1 gt rfl); have h2 := HGX.out; omega⟩
       have NXS : Aside0 (gx ≠ gs) := ⟨by have h1 := NGX.out gs (HM.out.RS.1 gs rfl); have h2 := HGX.out; omega⟩
       have NGT : Aside0 (gG ≠ gt) := ⟨by have h1 := HM.out.RT.1 gt rfl; have h2 := GG.out; omega⟩
       have NGS : Aside0 (gG ≠ gs) := ⟨by have h1 := HM.out.RS.1 gs rfl; have h2 := GG.out; omega⟩
       refine start_ (n := 10) (S := fun w' => w'.cell? ⟨g8, 0, none⟩ = some (.slice (some ⟨gt, 0, none⟩) n c5) ∧ w'.cell? ⟨g7, 0, none⟩ = some (.slice (some ⟨gs, 0, none⟩) n c3) ∧ w'.cell? ⟨gx, 0, none⟩ = some (.int .i64 a0) ∧ w'.cell? ⟨gx, 1, none⟩ = some (.int .i64 a1) ∧ w'.cell? ⟨gx, 2, none⟩ = some (.int .i64 a2) ∧ w'.cell? ⟨gx, 3, none⟩ = some (.int .i64 a3) ∧ w'.cell? ⟨gx, 4, none⟩ = some (.int .i64 a4) ∧ w'.cell? ⟨gx, 5, none⟩ = some (.int .i64 a5)) (ds := []) B30_ (by kernel_rfl) rfl rfl ⟨(HMd.out).cT, (HMd.out).cS, (blk_cell KXd.out 0).trans rfl, (blk_cell KXd.out 1).trans rfl, (blk_cell KXd.out 2).trans rfl, (blk_cell KXd.out 3).trans rfl, (blk_cell KXd.out 4).trans rfl, (blk_cell KXd.out 5).trans rfl⟩ (fun hHeld => ?_)
       refine pure_ (i := 1) (N := some 121) (v := ?_) (a' := ?_) B31_ rfl rfl (by kernel_rfl) (fun _ _ _ h => h) (Or.inl ⟨by rfl, ?_⟩) ?_ ?_
       rotate_left; · intro w'; go_simp; with_reducible rfl
       rotate_left; · simp only [Act.put, q1_, q2_, q3_, i64_w, i32_w]; rfl
       refine pure_ (i := 3) (N := some 123) (v := ?_) (a' := ?_) B32_ rfl rfl (by kernel_rfl) (fun _ _ _ h => h) (Or.inl ⟨by rfl, ?_⟩) ?_ ?_
       rotate_left; · intro w'; go_simp; with_reducible rfl
       rotate_left; · simp only [Act.put, q1_, q2_, q3_, i64_w, i32_w]; rfl
       refine take_ (i := 0) (N := some 120) (v := ?_) (a' := ?_) B33_ rfl rfl (by kernel_rfl) (fun _ _ _ h => h) (Or.inl ⟨by rfl, ?_⟩) hHeld ?_ ?_
       rotate_left; · rintro w' ⟨s0, s1, s2, s3, s4, s5, s6, s7⟩; go_simp; with_reducible rfl
       rotate_left; · simp only [Act.put, q1_, q2_, q3_, i64_w, i32_w]; rfl
       refine take_ (i := 2) (N := some 122) (v := ?_) (a' := ?_) B34_ rfl rfl (by kernel_rfl) (fun _ _ _ h => h) (Or.inl ⟨by rfl, ?_⟩) hHeld ?_ ?_
       rotate_left; · rintro w' ⟨s0, s1, s2, s3, s4, s5, s6, s7⟩; go_simp; with_reducible rfl
       rotate_left; · simp only [Act.put, q1_, q2_, q3_, i64_w, i32_w]; rfl
       refine take_ (i := 4) (N := some 124) (v := ?_) (a' := ?_) B35_ rfl rfl (by kernel_rfl) (fun _ _ _ h => h) (Or.inl ⟨by rfl, ?_⟩) hHeld ?_ ?_
       rotate_left; · rintro w' ⟨s0, s1, s2, s3, s4, s5, s6, s7⟩; go_simp; with_reducible rfl
       rotate_left; · simp only [Act.put, q1_, q2_, q3_, i64_w, i32_w]; rfl
       refine one_ (i := 5) (N := some 125) B36_ rfl rfl (by kernel_rfl) (by decide) (fun K hK => ?_)
       refine goes_ Try.func74 (by kernel_rfl) rfl #[.agg #[.int .i64 a0, .int .i64 a1, .int .i64 a2, .int .i64 a3, .int .i64 a4, .int .i64 a5]] (by rfl) rfl rfl (by simp only [List.map_toArray, List.map_cons, List.map_nil]; rfl) ?_
       with_reducible refine (rlong_calls a0 a1 a2 a3 a4 a5 _).mono ?_
       rintro e w7 ⟨rfl, hb⟩
       refine ⟨_, rfl, ?_⟩
       rw [HLGX.out]
       have HM9 := Aside0.mk (HMd.out.below hb)
       have KG9 := Aside0.mk (blk_below KGd.out hb)
       have KX9 := Aside0.mk (blk_below KXd.out hb)
       clear hb
       obtain ⟨ct_, ft_⟩ := Kd.R_celln false HM9.out.RT (k : Int) (by omega) (by omega)
       obtain ⟨cs_, fs_⟩ := Kd.R_celln (0 : Int) HM9.out.RS (k : Int) (by omega) (by omega)
       simp only [Int.toNat_natCast] at ct_ ft_ cs_ fs_
       have cs2_ : (w7.setCell ⟨gt, k, none⟩ (.bool true)).cell? ⟨gs, k, none⟩ = _ := (Kd.R_celln (0 : Int) (HM9.out.stPut k true).RS (k : Int) (by omega) (by omega)).1
       have fs2_ : (w7.setCell ⟨gt, k, none⟩ (.bool true)).frozen? ⟨gs, k, none⟩ = false := (Kd.R_celln (0 : Int) (HM9.out.stPut k true).RS (k : Int) (by omega) (by omega)).2
       refine hK.out _ _ ⟨(HM9.out).cT, (HM9.out).cS, (blk_cell KX9.out 0).trans rfl, (blk_cell KX9.out 1).trans rfl, (blk_cell KX9.out 2).trans rfl, (blk_cell KX9.out 3).trans rfl, (blk_cell KX9.out 4).trans rfl, (blk_cell KX9.out 5).trans rfl⟩ (fun hHeld => ?_)
       clear hK K
       refine norm_ (a' := ?_) ?_ ?_
       rotate_left
       ·
        show Act.put _ (some 125) _ = _
        simp only [Act.put, q1_, q2_, q3_, i64_w, i32_w]
        rfl
       refine pure_ (i := 6) (N := some 126) (v := ?_) (a' := ?_) B37_ rfl rfl (by kernel_rfl) (fun _ _ _ h => h) (Or.inl ⟨by rfl, ?_⟩) ?_ ?_
       rotate_left; · intro w'; go_simp; with_reducible rfl
       rotate_left; · simp only [Act.put, q1_, q2_, q3_, i64_w, i32_w]; rfl
       refine one_ (i := 7) (N := none) B38_ rfl rfl (by kernel_rfl) (by decide) (fun K hK => ?_)
       refine skip_ (w1 := ?_) (by rfl) rfl ?_ ?_
       rotate_left
       ·
        go_simp
        rfl
       refine hK.out _ _ ⟨(HM9.out.stPut k true).cT, (HM9.out.stPut k true).cS, (blk_cell (blk_far (p := ⟨gt, k, none⟩) KX9.out NXT.out (.bool true)) 0).trans rfl, (blk_cell (blk_far (p := ⟨gt, k, none⟩) KX9.out NXT.out (.bool true)) 1).trans rfl, (blk_cell (blk_far (p := ⟨gt, k, none⟩) KX9.out NXT.out (.bool true)) 2).trans rfl, (blk_cell (blk_far (p := ⟨gt, k, none⟩) KX9.out NXT.out (.bool true)) 3).trans rfl, (blk_cell (blk_far (p := ⟨gt, k, none⟩) KX9.out NXT.out (.bool true)) 4).trans rfl, (blk_cell (blk_far (p := ⟨gt, k, none⟩) KX9.out NXT.out (.bool true)) 5).trans rfl⟩ (fun hHeld => ?_)
       clear hK K
       refine pure_ (i := 8) (N := some 127) (v := ?_) (a' := ?_) B39_ rfl rfl (by kernel_rfl) (fun _ _ _ h => h) (Or.inl ⟨by rfl, ?_⟩) ?_ ?_
       rotate_left; · intro w'; go_simp; with_reducible rfl
       rotate_left; · simp only [Act.put, q1_, q2_, q3_, i64_w, i32_w]; rfl
       refine one_ (i := 9) (N := none) B40_ rfl rfl (by kernel_rfl) (by decide) (fun K hK => ?_)
       refine skip_ (w1 := ?_) (by rfl) rfl ?_ ?_
       rotate_left
       ·
        go_simp
        rfl
       refine hK.out _ _ ⟨((HM9.out.stPut k true).isPut k lg).cT, ((HM9.out.stPut k true).isPut k lg).cS, (blk_cell (blk_far (p := ⟨gs, k, none⟩) (blk_far (p := ⟨gt, k, none⟩) KX9.out NXT.out (.bool true)) NXS.out (.int .i64 lg)) 0).trans rfl, (blk_cell (blk_far (p := ⟨gs, k, none⟩) (blk_far (p := ⟨gt, k, none⟩) KX9.out NXT.out (.bool true)) NXS.out (.int .i64 lg)) 1).trans rfl, (blk_cell (blk_far (p := ⟨gs, k, none⟩) (blk_far (p := ⟨gt, k, none⟩) KX9.out NXT.out (.bool true)) NXS.out (.int .i64 lg)) 2).trans rfl, (blk_cell (blk_far (p := ⟨gs, k, none⟩) (blk_far (p := ⟨gt, k, none⟩) KX9.out NXT.out (.bool true)) NXS.out (.int .i64 lg)) 3).trans rfl, (blk_cell (blk_far (p := ⟨gs, k, none⟩) (blk_far (p := ⟨gt, k, none⟩) KX9.out NXT.out (.bool true)) NXS.out (.int .i64 lg)) 4).trans rfl, (blk_cell (blk_far (p := ⟨gs, k, none⟩) (blk_far (p := ⟨gt, k, none⟩) KX9.out NXT.out (.bool true)) NXS.out (.int .i64 lg)) 5).trans rfl⟩ (fun hHeld => ?_)
       clear hK K
       refine done_ (by kernel_rfl) ?_
       have HM10 := Aside0.mk ((HM9.out.stPut k true).isPut k lg)
       have KG10 := Aside0.mk (blk_far (p := ⟨gs, k, none⟩) (blk_far (p := ⟨gt, k, none⟩) KG9.out NGT.out (.bool true)) NGS.out (.int .i64 lg))
       clear ct_ ft_ cs_ fs_ cs2_ fs2_
       go_wp2
       go_roundw
       case rel => exact ⟨k + 1, by omega, by go_num, ⟨by rw [HS1.out, HS2.out]; exact HM10.out⟩, ⟨KG10.out⟩⟩
       case measure => simp [intOf]; omega
     have e1 : decide (a0 < lg) = false := decide_eq_false h1
     clear h1
     as_aux_lemma =>
      have HT : Aside0 (atO false ⟨a0, a1, a2, a3, a4, a5⟩ = false) := ⟨by rw [HAT.out, e0, e1]; first | rfl | simp⟩
      rw [HT.out] at HS1 HS2
      go_wp2_with (first | ((with_reducible refine gate_dst (N := 18) rfl ?_); refine box_event rfl (N := 18) rfl (cs := #[.int .i64 0, .int .i64 0, .int .i64 0, .int .i64 0, .int .i64 0, .int .i64 0]) (t := 91) (by first | (go_simp; done) | (go_simp; rfl)) ?_; intro gx hgx w3 hbx hb; have KX0 := Aside0.mk hbx; have HGX : Aside0 (wr.heap.size ≤ gx) := ⟨by omega⟩; have BX := Aside0.mk hb; clear hgx hbx hb) | ((with_reducible refine gate_store (t := 91) (p := 18) rfl ?_); refine store_event (t := 91) (p := 18) (w1 := w3.setCells gx 0 (#[.int .i64 a0, .int .i64 a1, .int .i64 a2, .int .i64 a3, .int .i64 a4, .int .i64 a5] : Array Value).toList) rfl rfl rfl (store_run 91 (.tmp 18) (.tmp 94) gx #[.int .i64 a0, .int .i64 a1, .int .i64 a2, .int .i64 a3, .int .i64 a4, .int .i64 a5] rfl rfl rfl (there_row KX0.out _ (Nat.le_refl 6)) (by kernel_rfl) (all_oneCell_toArray (cs := [.int .i64 a0, .int .i64 a1, .int .i64 a2, .int .i64 a3, .int .i64 a4, .int .i64 a5]) (by intro v hv; simp only [List.mem_cons, List.not_mem_nil, or_false] at hv; rcases hv with rfl | rfl | rfl | rfl | rfl | rfl <;> rfl))) ?_; intro w4 hw3; have KX : Aside0 (w4.heap[gx]? = some (.cells #[.int .i64 a0, .int .i64 a1, .int .i64 a2, .int .i64 a3, .int .i64 a4, .int .i64 a5] 91 (0, 0))) := ⟨by rw [hw3]; exact sets_row KX0.out rfl⟩; have BX3 : Aside0 (Below wr.heap.size wr w4) := ⟨by rw [hw3]; exact sets_below HGX.out _ 0 _ BX.out⟩; clear hw3; have cx0 : w4.cell? ⟨gx, 0, none⟩ = some (.int .i64 a0) := (blk_cell KX.out 0).trans rfl; have cx1 : w4.cell? ⟨gx, 1, none⟩ = some (.int .i64 a1) := (blk_cell KX.out 1).trans rfl; have cx2 : w4.cell? ⟨gx, 2, none⟩ = some (.int .i64 a2) := (blk_cell KX.out 2).trans rfl; have cx3 : w4.cell? ⟨gx, 3, none⟩ = some (.int .i64 a3) := (blk_cell KX.out 3).trans rfl; have cx4 : w4.cell? ⟨gx, 4, none⟩ = some (.int .i64 a4) := (blk_cell KX.out 4).trans rfl; have cx5 : w4.cell? ⟨gx, 5, none⟩ = some (.int .i64 a5) := (blk_cell KX.out 5).trans rfl; have HM4 := Aside0.mk (HM.out.below BX3.out); have KG4 := Aside0.mk (blk_below KG.out BX3.out)))
      clear cx0 cx1 cx2 cx3 cx4 cx5 hx0 hx1 hx2 hx3 hx4 hx5
      have KG4d : Aside0 (w4.drew.heap[gG]? = _) := ⟨KG4.out⟩
      have KX4d : Aside0 (w4.drew.heap[gx]? = _) := ⟨KX.out⟩
      have HM4d := Aside0.mk HM4.out.drew
      refine start_ (n := 25) (S := fun w' => w'.cell? ⟨gG, 0, none⟩ = some (.bool false) ∧ w'.cell? ⟨gx, 0, none⟩ = some (.int .i64 a0) ∧ w'.cell? ⟨gx, 1, none⟩ = some (.int .i64 a1) ∧ w'.cell? ⟨gx, 2, none⟩ = some (.int .i64 a2) ∧ w'.cell? ⟨gx, 3, none⟩ = some (.int .i64 a3) ∧ w'.cell? ⟨gx, 4, none⟩ = some (.int .i64 a4) ∧ w'.cell? ⟨gx, 5, none⟩ = some (.int .i64 a5)) (ds := []) B4_ (by kernel_rfl) rfl rfl ⟨(blk_cell KG4d.out 0).trans rfl, (blk_cell KX4d.out 0).trans rfl, (blk_cell KX4d.out 1).trans rfl, (blk_cell KX4d.out 2).trans rfl, (blk_cell KX4d.out 3).trans rfl, (blk_cell KX4d.out 4).trans rfl, (blk_cell KX4d.out 5).trans rfl⟩ (fun hHeld => ?_)
      refine pure_ (i := 0) (N := some 95) (v := ?_) (a' := ?_) B5_ rfl rfl (by kernel_rfl) (fun _ _ _ h => h) (Or.inl ⟨by rfl, ?_⟩) ?_ ?_
      rotate_left; · intro w'; go_simp; with_reducible rfl
      rotate_left; · simp only [Act.put, q1_, q2_, q3_, i64_w, i32_w]; rfl
      refine take_ (i := 1) (N := some 96) (v := ?_) (a' := ?_) B6_ rfl rfl (by kernel_rfl) (fun _ _ _ h => h) (Or.inl ⟨by rfl, ?_⟩) hHeld ?_ ?_
      rotate_left; · rintro w' ⟨s0, s1, s2, s3, s4, s5, s6⟩; go_simp; with_reducible rfl
      rotate_left; · simp only [Act.put, q1_, q2_, q3_, i64_w, i32_w]; rfl
      refine one_ (i := 2) (N := some 97) B7_ rfl rfl (by kernel_rfl) (by decide) (fun K hK => ?_)
      refine goesT_ Try.func75 (by kernel_rfl) rfl #[.agg #[.int .i64 a0, .int .i64 a1, .int .i64 a2, .int .i64 a3, .int .i64 a4, .int .i64 a5], .pointer (some ⟨gG, 0, none⟩)] (by rfl) rfl rfl rfl (by simp only [List.map_toArray, List.map_cons, List.map_nil]; rfl) ?_
      with_reducible refine (grow_calls gG false a0 a1 a2 a3 a4 a5 _ KG4d.out).mono ?_
      rw [HFV.out]
      rintro e w5 ⟨rfl, hb⟩
      refine ⟨_, rfl, ?_⟩
      have HM5 := Aside0.mk (HM4d.out.below hb)
      have KG5 := Aside0.mk (blk_below KG4d.out hb)
      have KX5 := Aside0.mk (blk_below KX4d.out hb)
      clear hb
      refine hK.out _ _ ⟨(blk_cell KG5.out 0).trans rfl, (blk_cell KX5.out 0).trans rfl, (blk_cell KX5.out 1).trans rfl, (blk_cell KX5.out 2).trans rfl, (blk_cell KX5.out 3).trans rfl, (blk_cell KX5.out 4).trans rfl, (blk_cell KX5.out 5).trans rfl⟩ (fun hHeld => ?_)
      clear hK K
      refine norm_ (a' := ?_) ?_ ?_
      rotate_left
      ·
       show Act.put _ (some 97) _ = _
       simp only [Act.put, q1_, q2_, q3_, i64_w, i32_w]
       rfl
      refine pure_ (i := 3) (N := some 98) (v := ?_) (a' := ?_) B8_ rfl rfl (by kernel_rfl) (fun _ _ _ h => h) (Or.inl ⟨by rfl, ?_⟩) ?_ ?_
      rotate_left; · intro w'; go_simp; with_reducible rfl
      rotate_left; · simp only [Act.put, q1_, q2_, q3_, i64_w, i32_w]; rfl
      refine pure_ (i := 4) (N := some 99) (v := ?_) (a' := ?_) B9_ rfl rfl (by kernel_rfl) (fun _ _ _ h => h) (Or.inl ⟨by rfl, ?_⟩) ?_ ?_
      rotate_left; · intro w'; go_simp; with_reducible rfl
      rotate_left; · simp only [Act.put, q1_, q2_, q3_, i64_w, i32_w]; rfl
      refine take_ (i := 5) (N := some 100) (v := ?_) (a' := ?_) B10_ rfl rfl (by kernel_rfl) (fun _ _ _ h => h) (Or.inl ⟨by rfl, ?_⟩) hHeld ?_ ?_
      rotate_left; · rintro w' ⟨s0, s1, s2, s3, s4, s5, s6⟩; go_simp; with_reducible rfl
      rotate_left; · simp only [Act.put, q1_, q2_, q3_, i64_w, i32_w]; rfl
      refine pure_ (i := 6) (N := some 101) (v := ?_) (a' := ?_) B11_ rfl rfl (by kernel_rfl) (fun _ _ _ h => h) (Or.inl ⟨by rfl, ?_⟩) ?_ ?_
      rotate_left; · intro w'; go_simp; with_reducible rfl
      rotate_left; · simp only [Act.put, q1_, q2_, q3_, i64_w, i32_w]; rfl
      refine pure_ (i := 7) (N := some 102) (v := undef) (a' := ?_) B12_ rfl rfl (by kernel_rfl) (fun _ _ _ h => h) (Or.inr ⟨by rfl, rfl⟩) ?_ ?_
      rotate_left; · simp only [Act.put, q1_, q2_, q3_, i64_w, i32_w]; rfl
      refine pure_ (i := 8) (N := some 103) (v := undef) (a' := ?_) B13_ rfl rfl (by kernel_rfl) (fun _ _ _ h => h) (Or.inr ⟨by rfl, rfl⟩) ?_ ?_
      rotate_left; · simp only [Act.put, q1_, q2_, q3_, i64_w, i32_w]; rfl
      refine pure_ (i := 9) (N := some 104) (v := undef) (a' := ?_) B14_ rfl rfl (by kernel_rfl) (fun _ _ _ h => h) (Or.inr ⟨by rfl, rfl⟩) ?_ ?_
      rotate_left; · simp only [Act.put, q1_, q2_, q3_, i64_w, i32_w]; rfl
      refine pure_ (i := 10) (N := some 105) (v := undef) (a' := ?_) B15_ rfl rfl (by kernel_rfl) (fun _ _ _ h => h) (Or.inr ⟨by rfl, rfl⟩) ?_ ?_
      rotate_left; · simp only [Act.put, q1_, q2_, q3_, i64_w, i32_w]; rfl
      refine pure_ (i := 11) (N := some 106) (v := undef) (a' := ?_) B16_ rfl rfl (by kernel_rfl) (fun _ _ _ h => h) (Or.inr ⟨by rfl, rfl⟩) ?_ ?_
      rotate_left; · simp only [Act.put, q1_, q2_, q3_, i64_w, i32_w]; rfl
      refine pure_ (i := 12) (N := some 107) (v := ?_) (a' := ?_) B17_ rfl rfl (by kernel_rfl) (fun _ _ _ h => h) (Or.inl ⟨by rfl, ?_⟩) ?_ ?_
      rotate_left; · intro w'; go_simp; with_reducible rfl
      rotate_left; · simp only [Act.put, q1_, q2_, q3_, i64_w, i32_w]; rfl
      refine pure_ (i := 13) (N := some 108) (v := ?_) (a' := ?_) B18_ rfl rfl (by kernel_rfl) (fun _ _ _ h => h) (Or.inl ⟨by rfl, ?_⟩) ?_ ?_
      rotate_left; · intro w'; go_simp; with_reducible rfl
      rotate_left; · simp only [Act.put, q1_, q2_, q3_, i64_w, i32_w]; rfl
      refine pure_ (i := 14) (N := some 109) (v := ?_) (a' := ?_) B19_ rfl rfl (by kernel_rfl) (fun _ _ _ h => h) (Or.inl ⟨by rfl, ?_⟩) ?_ ?_
      rotate_left; · intro w'; go_simp; with_reducible rfl
      rotate_left; · simp only [Act.put, q1_, q2_, q3_, i64_w, i32_w]; rfl
      refine take_ (i := 15) (N := some 110) (v := ?_) (a' := ?_) B20_ rfl rfl (by kernel_rfl) (fun _ _ _ h => h) (Or.inl ⟨by rfl, ?_⟩) hHeld ?_ ?_
      rotate_left; · rintro w' ⟨s0, s1, s2, s3, s4, s5, s6⟩; go_simp; with_reducible rfl
      rotate_left; · simp only [Act.put, q1_, q2_, q3_, i64_w, i32_w]; rfl
      refine pure_ (i := 16) (N := some 111) (v := ?_) (a' := ?_) B21_ rfl rfl (by kernel_rfl) (fun _ _ _ h => h) (Or.inl ⟨by rfl, ?_⟩) ?_ ?_
      rotate_left; · intro w'; go_simp; with_reducible rfl
      rotate_left; · simp only [Act.put, q1_, q2_, q3_, i64_w, i32_w]; rfl
      refine pure_ (i := 17) (N := some 112) (v := ?_) (a' := ?_) B22_ rfl rfl (by kernel_rfl) (fun _ _ _ h => h) (Or.inl ⟨by rfl, ?_⟩) ?_ ?_
      rotate_left; · intro w'; go_simp; with_reducible rfl
      rotate_left; · simp only [Act.put, q1_, q2_, q3_, i64_w, i32_w]; rfl
      refine pure_ (i := 18) (N := some 113) (v := ?_) (a' := ?_) B23_ rfl rfl (by kernel_rfl) (fun _ _ _ h => h) (Or.inl ⟨by rfl, ?_⟩) ?_ ?_
      rotate_left; · intro w'; go_simp; with_reducible rfl
      rotate_left; · simp only [Act.put, q1_, q2_, q3_, i64_w, i32_w]; rfl
      refine take_ (i := 19) (N := some 114) (v := ?_) (a' := ?_) B24_ rfl rfl (by kernel_rfl) (fun _ _ _ h => h) (Or.inl ⟨by rfl, ?_⟩) hHeld ?_ ?_
      rotate_left; · rintro w' ⟨s0, s1, s2, s3, s4, s5, s6⟩; go_simp; with_reducible rfl
      rotate_left; · simp only [Act.put, q1_, q2_, q3_, i64_w, i32_w]; rfl
      refine take_ (i := 20) (N := some 115) (v := ?_) (a' := ?_) B25_ rfl rfl (by kernel_rfl) (fun _ _ _ h => h) (Or.inl ⟨by rfl, ?_⟩) hHeld ?_ ?_
      rotate_left; · rintro w' ⟨s0, s1, s2, s3, s4, s5, s6⟩; go_simp; with_reducible rfl
      rotate_left; · simp only [Act.put, q1_, q2_, q3_, i64_w, i32_w]; rfl
      refine one_ (i := 21) (N := some 116) B26_ rfl rfl (by kernel_rfl) (by decide) (fun K hK => ?_)
      refine goes_ Try.func74 (by kernel_rfl) rfl #[.agg #[.int .i64 a0, .int .i64 a1, .int .i64 a2, .int .i64 a3, .int .i64 a4, .int .i64 a5]] (by rfl) rfl rfl (by simp only [List.map_toArray, List.map_cons, List.map_nil]; rfl) ?_
      with_reducible refine (rlong_calls a0 a1 a2 a3 a4 a5 _).mono ?_
      rintro e w6 ⟨rfl, hb⟩
      refine ⟨_, rfl, ?_⟩
      rw [HLGX.out]
      have HM6 := Aside0.mk (HM5.out.below hb)
      have KG6 := Aside0.mk (blk_below KG5.out hb)
      have KX6 := Aside0.mk (blk_below KX5.out hb)
      clear hb
      refine hK.out _ _ ⟨(blk_cell KG6.out 0).trans rfl, (blk_cell KX6.out 0).trans rfl, (blk_cell KX6.out 1).trans rfl, (blk_cell KX6.out 2).trans rfl, (blk_cell KX6.out 3).trans rfl, (blk_cell KX6.out 4).trans rfl, (blk_cell KX6.out 5).trans rfl⟩ (fun hHeld => ?_)
      clear hK K
      refine norm_ (a' := ?_) ?_ ?_
      rotate_left
      ·
       show Act.put _ (some 116) _ = _
       simp only [Act.put, q1_, q2_, q3_, i64_w, i32_w]
       rfl
      refine pure_ (i := 22) (N := some 117) (v := ?_) (a' := ?_) B27_ rfl rfl (by kernel_rfl) (fun _ _ _ h => h) (Or.inl ⟨by rfl, ?_⟩) ?_ ?_
      rotate_left; · intro w'; go_simp; with_reducible rfl
      rotate_left; · simp only [Act.put, q1_, q2_, q3_, i64_w, i32_w]; rfl
      refine pure_ (i := 23) (N := some 118) (v := ?_) (a' := ?_) B28_ rfl rfl (by kernel_rfl) (fun _ _ _ h => h) (Or.inl ⟨by rfl, ?_⟩) ?_ ?_
      rotate_left; · intro w'; go_simp; with_reducible rfl
      rotate_left; · simp only [Act.put, q1_, q2_, q3_, i64_w, i32_w]; rfl
      refine pure_ (i := 24) (N := some 119) (v := ?_) (a' := ?_) B29_ rfl rfl (by kernel_rfl) (fun _ _ _ h => h) (Or.inl ⟨by rfl, ?_⟩) ?_ ?_
      rotate_left; · intro w'; go_simp; with_reducible rfl
      rotate_left; · simp only [Act.put, q1_, q2_, q3_, i64_w, i32_w]; rfl
      refine done_ (by kernel_rfl) ?_
      go_wp2
      go_roundw
      case rel => exact ⟨k + 1, by omega, by go_num, ⟨by rw [HS1.out, HS2.out]; exact HM6.out⟩, ⟨KG6.out⟩⟩
      case measure => simp [intOf]; omega
    by_cases h1 : lg < a0
    ·
     have e1 : decide (lg < a0) = true := decide_eq_true h1
     clear h1
     as_aux_lemma =>
      have HT : Aside0 (atO true ⟨a0, a1, a2, a3, a4, a5⟩ = true) := ⟨by rw [HAT.out, e0, e1]; first | rfl | simp⟩
      rw [HT.out] at HS1 HS2
      go_wp2_with (first | ((with_reducible refine gate_dst (N := 18) rfl ?_); refine box_event rfl (N := 18) rfl (cs := #[.int .i64 0, .int .i64 0, .int .i64 0, .int .i64 0, .int .i64 0, .int .i64 0]) (t := 91) (by first | (go_simp; done) | (go_simp; rfl)) ?_; intro gx hgx w3 hbx hb; have KX0 := Aside0.mk hbx; have HGX : Aside0 (wr.heap.size ≤ gx) := ⟨by omega⟩; have BX := Aside0.mk hb; clear hgx hbx hb) | ((with_reducible refine gate_store (t := 91) (p := 18) rfl ?_); refine store_event (t := 91) (p := 18) (w1 := w3.setCells gx 0 (#[.int .i64 a0, .int .i64 a1, .int .i64 a2, .int .i64 a3, .int .i64 a4, .int .i64 a5] : Array Value).toList) rfl rfl rfl (store_run 91 (.tmp 18) (.tmp 94) gx #[.int .i64 a0, .int .i64 a1, .int .i64 a2, .int .i64 a3, .int .i64 a4, .int .i64 a5] rfl rfl rfl (there_row KX0.out _ (Nat.le_refl 6)) (by kernel_rfl) (all_oneCell_toArray (cs := [.int .i64 a0, .int .i64 a1, .int .i64 a2, .int .i64 a3, .int .i64 a4, .int .i64 a5]) (by intro v hv; simp only [List.mem_cons, List.not_mem_nil, or_false] at hv; rcases hv with rfl | rfl | rfl | rfl | rfl | rfl <;> rfl))) ?_; intro w4 hw3; have KX : Aside0 (w4.heap[gx]? = some (.cells #[.int .i64 a0, .int .i64 a1, .int .i64 a2, .int .i64 a3, .int .i64 a4, .int .i64 a5] 91 (0, 0))) := ⟨by rw [hw3]; exact sets_row KX0.out rfl⟩; have BX3 : Aside0 (Below wr.heap.size wr w4) := ⟨by rw [hw3]; exact sets_below HGX.out _ 0 _ BX.out⟩; clear hw3; have cx0 : w4.cell? ⟨gx, 0, none⟩ = some (.int .i64 a0) := (blk_cell KX.out 0).trans rfl; have cx1 : w4.cell? ⟨gx, 1, none⟩ = some (.int .i64 a1) := (blk_cell KX.out 1).trans rfl; have cx2 : w4.cell? ⟨gx, 2, none⟩ = some (.int .i64 a2) := (blk_cell KX.out 2).trans rfl; have cx3 : w4.cell? ⟨gx, 3, none⟩ = some (.int .i64 a3) := (blk_cell KX.out 3).trans rfl; have cx4 : w4.cell? ⟨gx, 4, none⟩ = some (.int .i64 a4) := (blk_cell KX.out 4).trans rfl; have cx5 : w4.cell? ⟨gx, 5, none⟩ = some (.int .i64 a5) := (blk_cell KX.out 5).trans rfl; have HM4 := Aside0.mk (HM.out.below BX3.out); have KG4 := Aside0.mk (blk_below KG.out BX3.out)))
      clear cx0 cx1 cx2 cx3 cx4 cx5 hx0 hx1 hx2 hx3 hx4 hx5
      have KG4d : Aside0 (w4.drew.heap[gG]? = _) := ⟨KG4.out⟩
      have KX4d : Aside0 (w4.drew.heap[gx]? = _) := ⟨KX.out⟩
      have HM4d := Aside0.mk HM4.out.drew
      refine start_ (n := 25) (S := fun w' => w'.cell? ⟨gG, 0, none⟩ = some (.bool true) ∧ w'.cell? ⟨gx, 0, none⟩ = some (.int .i64 a0) ∧ w'.cell? ⟨gx, 1, none⟩ = some (.int .i64 a1) ∧ w'.cell? ⟨gx, 2, none⟩ = some (.int .i64 a2) ∧ w'.cell? ⟨gx, 3, none⟩ = some (.int .i64 a3) ∧ w'.cell? ⟨gx, 4, none⟩ = some (.int .i64 a4) ∧ w'.cell? ⟨gx, 5, none⟩ = some (.int .i64 a5)) (ds := []) B4_ (by kernel_rfl) rfl rfl ⟨(blk_cell KG4d.out 0).trans rfl, (blk_cell KX4d.out 0).trans rfl, (blk_cell KX4d.out 1).trans rfl, (blk_cell KX4d.out 2).trans rfl, (blk_cell KX4d.out 3).trans rfl, (blk_cell KX4d.out 4).trans rfl, (blk_cell KX4d.out 5).trans rfl⟩ (fun hHeld => ?_)
      refine pure_ (i := 0) (N := some 95) (v := ?_) (a' := ?_) B5_ rfl rfl (by kernel_rfl) (fun _ _ _ h => h) (Or.inl ⟨by rfl, ?_⟩) ?_ ?_
      rotate_left; · intro w'; go_simp; with_reducible rfl
      rotate_left; · simp only [Act.put, q1_, q2_, q3_, i64_w, i32_w]; rfl
      refine take_ (i := 1) (N := some 96) (v := ?_) (a' := ?_) B6_ rfl rfl (by kernel_rfl) (fun _ _ _ h => h) (Or.inl ⟨by rfl, ?_⟩) hHeld ?_ ?_
      rotate_left; · rintro w' ⟨s0, s1, s2, s3, s4, s5, s6⟩; go_simp; with_reducible rfl
      rotate_left; · simp only [Act.put, q1_, q2_, q3_, i64_w, i32_w]; rfl
      refine one_ (i := 2) (N := some 97) B7_ rfl rfl (by kernel_rfl) (by decide) (fun K hK => ?_)
      refine goesT_ Try.func75 (by kernel_rfl) rfl #[.agg #[.int .i64 a0, .int .i64 a1, .int .i64 a2, .int .i64 a3, .int .i64 a4, .int .i64 a5], .pointer (some ⟨gG, 0, none⟩)] (by rfl) rfl rfl rfl (by simp only [List.map_toArray, List.map_cons, List.map_nil]; rfl) ?_
      with_reducible refine (grow_calls gG true a0 a1 a2 a3 a4 a5 _ KG4d.out).mono ?_
      rw [HFV.out]
      rintro e w5 ⟨rfl, hb⟩
      refine ⟨_, rfl, ?_⟩
      have HM5 := Aside0.mk (HM4d.out.below hb)
      have KG5 := Aside0.mk (blk_below KG4d.out hb)
      have KX5 := Aside0.mk (blk_below KX4d.out hb)
      clear hb
      refine hK.out _ _ ⟨(blk_cell KG5.out 0).trans rfl, (blk_cell KX5.out 0).trans rfl, (blk_cell KX5.out 1).trans rfl, (blk_cell KX5.out 2).trans rfl, (blk_cell KX5.out 3).trans rfl, (blk_cell KX5.out 4).trans rfl, (blk_cell KX5.out 5).trans rfl⟩ (fun hHeld => ?_)
      clear hK K
      refine norm_ (a' := ?_) ?_ ?_
      rotate_left
      ·
       show Act.put _ (some 97) _ = _
       simp only [Act.put, q1_, q2_, q3_, i64_w, i32_w]
       rfl
      refine pure_ (i := 3) (N := some 98) (v := ?_) (a' := ?_) B8_ rfl rfl (by kernel_rfl) (fun _ _ _ h => h) (Or.inl ⟨by rfl, ?_⟩) ?_ ?_
      rotate_left; · intro w'; go_simp; with_reducible rfl
      rotate_left; · simp only [Act.put, q1_, q2_, q3_, i64_w, i32_w]; rfl
      refine pure_ (i := 4) (N := some 99) (v := ?_) (a' := ?_) B9_ rfl rfl (by kernel_rfl) (fun _ _ _ h => h) (Or.inl ⟨by rfl, ?_⟩) ?_ ?_
      rotate_left; · intro w'; go_simp; with_reducible rfl
      rotate_left; · simp only [Act.put, q1_, q2_, q3_, i64_w, i32_w]; rfl
      refine take_ (i := 5) (N := some 100) (v := ?_) (a' := ?_) B10_ rfl rfl (by kernel_rfl) (fun _ _ _ h => h) (Or.inl ⟨by rfl, ?_⟩) hHeld ?_ ?_
      rotate_left; · rintro w' ⟨s0, s1, s2, s3, s4, s5, s6⟩; go_simp; with_reducible rfl
      rotate_left; · simp only [Act.put, q1_, q2_, q3_, i64_w, i32_w]; rfl
      refine pure_ (i := 6) (N := some 101) (v := ?_) (a' := ?_) B11_ rfl rfl (by kernel_rfl) (fun _ _ _ h => h) (Or.inl ⟨by rfl, ?_⟩) ?_ ?_
      rotate_left; · intro w'; go_simp; with_reducible rfl
      rotate_left; · simp only [Act.put, q1_, q2_, q3_, i64_w, i32_w]; rfl
      refine pure_ (i := 7) (N := some 102) (v := ?_) (a' := ?_) B12_ rfl rfl (by kernel_rfl) (fun _ _ _ h => h) (Or.inl ⟨by rfl, ?_⟩) ?_ ?_
      rotate_left; · intro w'; go_simp; with_reducible rfl
      rotate_left; · simp only [Act.put, q1_, q2_, q3_, i64_w, i32_w]; rfl
      refine take_ (i := 8) (N := some 103) (v := ?_) (a' := ?_) B13_ rfl rfl (by kernel_rfl) (fun _ _ _ h => h) (Or.inl ⟨by rfl, ?_⟩) hHeld ?_ ?_
      rotate_left; · rintro w' ⟨s0, s1, s2, s3, s4, s5, s6⟩; go_simp; with_reducible rfl
      rotate_left; · simp only [Act.put, q1_, q2_, q3_, i64_w, i32_w]; rfl
      refine take_ (i := 9) (N := some 104) (v := ?_) (a' := ?_) B14_ rfl rfl (by kernel_rfl) (fun _ _ _ h => h) (Or.inl ⟨by rfl, ?_⟩) hHeld ?_ ?_
      rotate_left; · rintro w' ⟨s0, s1, s2, s3, s4, s5, s6⟩; go_simp; with_reducible rfl
      rotate_left; · simp only [Act.put, q1_, q2_, q3_, i64_w, i32_w]; rfl
      refine one_ (i := 10) (N := some 105) B15_ rfl rfl (by kernel_rfl) (by decide) (fun K hK => ?_)
      refine goes_ Try.func74 (by kernel_rfl) rfl #[.agg #[.int .i64 a0, .int .i64 a1, .int .i64 a2, .int .i64 a3, .int .i64 a4, .int .i64 a5]] (by rfl) rfl rfl (by simp only [List.map_toArray, List.map_cons, List.map_nil]; rfl) ?_
      with_reducible refine (rlong_calls a0 a1 a2 a3 a4 a5 _).mono ?_
      rintro e w6 ⟨rfl, hb⟩
      refine ⟨_, rfl, ?_⟩
      rw [HLGX.out]
      have HM6 := Aside0.mk (HM5.out.below hb)
      have KG6 := Aside0.mk (blk_below KG5.out hb)
      have KX6 := Aside0.mk (blk_below KX5.out hb)
      clear hb
      refine hK.out _ _ ⟨(blk_cell KG6.out 0).trans rfl, (blk_cell KX6.out 0).trans rfl, (blk_cell KX6.out 1).trans rfl, (blk_cell KX6.out 2).trans rfl, (blk_cell KX6.out 3).trans rfl, (blk_cell KX6.out 4).trans rfl, (blk_cell KX6.out 5).trans rfl⟩ (fun hHeld => ?_)
      clear hK K
      refine norm_ (a' := ?_) ?_ ?_
      rotate_left
      ·
       show Act.put _ (some 105) _ = _
       simp only [Act.put, q1_, q2_, q3_, i64_w, i32_w]
       rfl
      refine pure_ (i := 11) (N := some 106) (v := ?_) (a' := ?_) B16_ rfl rfl (by kernel_rfl) (fun _ _ _ h => h) (Or.inl ⟨by rfl, ?_⟩) ?_ ?_
      rotate_left; · intro w'; go_simp; with_reducible rfl
      rotate_left; · simp only [Act.put, q1_, q2_, q3_, i64_w, i32_w]; rfl
      refine pure_ (i := 12) (N := some 107) (v := ?_) (a' := ?_) B17_ rfl rfl (by kernel_rfl) (fun _ _ _ h => h) (Or.inl ⟨by rfl, ?_⟩) ?_ ?_
      rotate_left; · intro w'; go_simp; with_reducible rfl
      rotate_left; · simp only [Act.put, q1_, q2_, q3_, i64_w, i32_w]; rfl
      refine pure_ (i := 13) (N := some 108) (v := ?_) (a' := ?_) B18_ rfl rfl (by kernel_rfl) (fun _ _ _ h => h) (Or.inl ⟨by rfl, ?_⟩) ?_ ?_
      rotate_left; · intro w'; go_simp; with_reducible rfl
      rotate_left; · simp only [Act.put, q1_, q2_, q3_, i64_w, i32_w]; rfl
      refine pure_ (i := 14) (N := some 109) (v := ?_) (a' := ?_) B19_ rfl rfl (by kernel_rfl) (fun _ _ _ h => h) (Or.inl ⟨by rfl, ?_⟩) ?_ ?_
      rotate_left; · intro w'; go_simp; with_reducible rfl
      rotate_left; · simp only [Act.put, q1_, q2_, q3_, i64_w, i32_w]; rfl
      refine pure_ (i := 15) (N := some 110) (v := undef) (a' := ?_) B20_ rfl rfl (by kernel_rfl) (fun _ _ _ h => h) (Or.inr ⟨by rfl, rfl⟩) ?_ ?_
      rotate_left; · simp only [Act.put, q1_, q2_, q3_, i64_w, i32_w]; rfl
      refine pure_ (i := 16) (N := some 111) (v := undef) (a' := ?_) B21_ rfl rfl (by kernel_rfl) (fun _ _ _ h => h) (Or.inr ⟨by rfl, rfl⟩) ?_ ?_
      rotate_left; · simp only [Act.put, q1_, q2_, q3_, i64_w, i32_w]; rfl
      refine pure_ (i := 17) (N := some 112) (v := undef) (a' := ?_) B22_ rfl rfl (by kernel_rfl) (fun _ _ _ h => h) (Or.inr ⟨by rfl, rfl⟩) ?_ ?_
      rotate_left; · simp only [Act.put, q1_, q2_, q3_, i64_w, i32_w]; rfl
      refine pure_ (i := 18) (N := some 113) (v := undef) (a' := ?_) B23_ rfl rfl (by kernel_rfl) (fun _ _ _ h => h) (Or.inr ⟨by rfl, rfl⟩) ?_ ?_
      rotate_left; · simp only [Act.put, q1_, q2_, q3_, i64_w, i32_w]; rfl
      refine pure_ (i := 19) (N := some 114) (v := undef) (a' := ?_) B24_ rfl rfl (by kernel_rfl) (fun _ _ _ h => h) (Or.inr ⟨by rfl, rfl⟩) ?_ ?_
      rotate_left; · simp only [Act.put, q1_, q2_, q3_, i64_w, i32_w]; rfl
      refine pure_ (i := 20) (N := some 115) (v := undef) (a' := ?_) B25_ rfl rfl (by kernel_rfl) (fun _ _ _ h => h) (Or.inr ⟨by rfl, rfl⟩) ?_ ?_
      rotate_left; · simp only [Act.put, q1_, q2_, q3_, i64_w, i32_w]; rfl
      refine pure_ (i := 21) (N := some 116) (v := undef) (a' := ?_) B26_ rfl rfl (by kernel_rfl) (fun _ _ _ h => h) (Or.inr ⟨by rfl, rfl⟩) ?_ ?_
      rotate_left; · simp only [Act.put, q1_, q2_, q3_, i64_w, i32_w]; rfl
      refine pure_ (i := 22) (N := some 117) (v := undef) (a' := ?_) B27_ rfl rfl (by kernel_rfl) (fun _ _ _ h => h) (Or.inr ⟨by rfl, rfl⟩) ?_ ?_
      rotate_left; · simp only [Act.put, q1_, q2_, q3_, i64_w, i32_w]; rfl
      refine pure_ (i := 23) (N := some 118) (v := undef) (a' := ?_) B28_ rfl rfl (by kernel_rfl) (fun _ _ _ h => h) (Or.inr ⟨by rfl, rfl⟩) ?_ ?_
      rotate_left; · simp only [Act.put, q1_, q2_, q3_, i64_w, i32_w]; rfl
      refine pure_ (i := 24) (N := some 119) (v := ?_) (a' := ?_) B29_ rfl rfl (by kernel_rfl) (fun _ _ _ h => h) (Or.inl ⟨by rfl, ?_⟩) ?_ ?_
      rotate_left; · intro w'; go_simp; with_reducible rfl
      rotate_left; · simp only [Act.put, q1_, q2_, q3_, i64_w, i32_w]; rfl
      refine done_ (by kernel_rfl) ?_
      go_wp2
      have HMd := Aside0.mk HM6.out.drew
      have KGd : Aside0 (w6.drew.heap[gG]? = _) := ⟨KG6.out⟩
      have KXd : Aside0 (w6.drew.heap[gx]? = _) := ⟨KX6.out⟩
      have NXT : Aside0 (gx ≠ gt) := ⟨by have h1 := NGX.out gt (HM.out.RT.1 gt rfl); have h2 := HGX.out; omega⟩
      have NXS : Aside0 (gx ≠ gs) := ⟨by have h1 := NGX.out gs (HM.out.RS.1 gs rfl); have h2 := HGX.out; omega⟩
      have NGT : Aside0 (gG ≠ gt) := ⟨by have h1 := HM.out.RT.1 gt rfl; have h2 := GG.out; omega⟩
      have NGS : Aside0 (gG ≠ gs) := ⟨by have h1 := HM.out.RS.1 gs rfl; have h2 := GG.out; omega⟩
      refine start_ (n := 10) (S := fun w' => w'.cell? ⟨g8, 0, none⟩ = some (.slice (some ⟨gt, 0, none⟩) n c5) ∧ w'.cell? ⟨g7, 0, none⟩ = some (.slice (some ⟨gs, 0, none⟩) n c3) ∧ w'.cell? ⟨gx, 0, none⟩ = some (.int .i64 a0) ∧ w'.cell? ⟨gx, 1, none⟩ = some (.int .i64 a1) ∧ w'.cell? ⟨gx, 2, none⟩ = some (.int .i64 a2) ∧ w'.cell? ⟨gx, 3, none⟩ = some (.int .i64 a3) ∧ w'.cell? ⟨gx, 4, none⟩ = some (.int .i64 a4) ∧ w'.cell? ⟨gx, 5, none⟩ = some (.int .i64 a5)) (ds := []) B30_ (by kernel_rfl) rfl rfl ⟨(HMd.out).cT, (HMd.out).cS, (blk_cell KXd.out 0).trans rfl, (blk_cell KXd.out 1).trans rfl, (blk_cell KXd.out 2).trans rfl, (blk_cell KXd.out 3).trans rfl, (blk_cell KXd.out 4).trans rfl, (blk_cell KXd.out 5).trans rfl⟩ (fun hHeld => ?_)
      refine pure_ (i := 1) (N := some 121) (v := ?_) (a' := ?_) B31_ rfl rfl (by kernel_rfl) (fun _ _ _ h => h) (Or.inl ⟨by rfl, ?_⟩) ?_ ?_
      rotate_left; · intro w'; go_simp; with_reducible rfl
      rotate_left; · simp only [Act.put, q1_, q2_, q3_, i64_w, i32_w]; rfl
      refine pure_ (i := 3) (N := some 123) (v := ?_) (a' := ?_) B32_ rfl rfl (by kernel_rfl) (fun _ _ _ h => h) (Or.inl ⟨by rfl, ?_⟩) ?_ ?_
      rotate_left; · intro w'; go_simp; with_reducible rfl
      rotate_left; · simp only [Act.put, q1_, q2_, q3_, i64_w, i32_w]; rfl
      refine take_ (i := 0) (N := some 120) (v := ?_) (a' := ?_) B33_ rfl rfl (by kernel_rfl) (fun _ _ _ h => h) (Or.inl ⟨by rfl, ?_⟩) hHeld ?_ ?_
      rotate_left; · rintro w' ⟨s0, s1, s2, s3, s4, s5, s6, s7⟩; go_simp; with_reducible rfl
      rotate_left; · simp only [Act.put, q1_, q2_, q3_, i64_w, i32_w]; rfl
      refine take_ (i := 2) (N := some 122) (v := ?_) (a' := ?_) B34_ rfl rfl (by kernel_rfl) (fun _ _ _ h => h) (Or.inl ⟨by rfl, ?_⟩) hHeld ?_ ?_
      rotate_left; · rintro w' ⟨s0, s1, s2, s3, s4, s5, s6, s7⟩; go_simp; with_reducible rfl
      rotate_left; · simp only [Act.put, q1_, q2_, q3_, i64_w, i32_w]; rfl
      refine take_ (i := 4) (N := some 124) (v := ?_) (a' := ?_) B35_ rfl rfl (by kernel_rfl) (fun _ _ _ h => h) (Or.inl ⟨by rfl, ?_⟩) hHeld ?_ ?_
      rotate_left; · rintro w' ⟨s0, s1, s2, s3, s4, s5, s6, s7⟩; go_simp; with_reducible rfl
      rotate_left; · simp only [Act.put, q1_, q2_, q3_, i64_w, i32_w]; rfl
      refine one_ (i := 5) (N := some 125) B36_ rfl rfl (by kernel_rfl) (by decide) (fun K hK => ?_)
      refine goes_ Try.func74 (by kernel_rfl) rfl #[.agg #[.int .i64 a0, .int .i64 a1, .int .i64 a2, .int .i64 a3, .int .i64 a4, .int .i64 a5]] (by rfl) rfl rfl (by simp only [List.map_toArray, List.map_cons, List.map_nil]; rfl) ?_
      with_reducible refine (rlong_calls a0 a1 a2 a3 a4 a5 _).mono ?_
      rintro e w7 ⟨rfl, hb⟩
      refine ⟨_, rfl, ?_⟩
      rw [HLGX.out]
      have HM9 := Aside0.mk (HMd.out.below hb)
      have KG9 := Aside0.mk (blk_below KGd.out hb)
      have KX9 := Aside0.mk (blk_below KXd.out hb)
      clear hb
      obtain ⟨ct_, ft_⟩ := Kd.R_celln false HM9.out.RT (k : Int) (by omega) (by omega)
      obtain ⟨cs_, fs_⟩ := Kd.R_celln (0 : Int) HM9.out.RS (k : Int) (by omega) (by omega)
      simp only [Int.toNat_natCast] at ct_ ft_ cs_ fs_
      have cs2_ : (w7.setCell ⟨gt, k, none⟩ (.bool true)).cell? ⟨gs, k, none⟩ = _ := (Kd.R_celln (0 : Int) (HM9.out.stPut k true).RS (k : Int) (by omega) (by omega)).1
      have fs2_ : (w7.setCell ⟨gt, k, none⟩ (.bool true)).frozen? ⟨gs, k, none⟩ = false := (Kd.R_celln (0 : Int) (HM9.out.stPut k true).RS (k : Int) (by omega) (by omega)).2
      refine hK.out _ _ ⟨(HM9.out).cT, (HM9.out).cS, (blk_cell KX9.out 0).trans rfl, (blk_cell KX9.out 1).trans rfl, (blk_cell KX9.out 2).trans rfl, (blk_cell KX9.out 3).trans rfl, (blk_cell KX9.out 4).trans rfl, (blk_cell KX9.out 5).trans rfl⟩ (fun hHeld => ?_)
      clear hK K
      refine norm_ (a' := ?_) ?_ ?_
      rotate_left
      ·
       show Act.put _ (some 125) _ = _
       simp only [Act.put, q1_, q2_, q3_, i64_w, i32_w]
       rfl
      refine pure_ (i := 6) (N := some 126) (v := ?_) (a' := ?_) B37_ rfl rfl (by kernel_rfl) (fun _ _ _ h => h) (Or.inl ⟨by rfl, ?_⟩) ?_ ?_
      rotate_left; · intro w'; go_simp; with_reducible rfl
      rotate_left; · simp only [Act.put, q1_, q2_, q3_, i64_w, i32_w]; rfl
      refine one_ (i := 7) (N := none) B38_ rfl rfl (by kernel_rfl) (by decide) (fun K hK => ?_)
      refine skip_ (w1 := ?_) (by rfl) rfl ?_ ?_
      rotate_left
      ·
       go_simp
       rfl
      refine hK.out _ _ ⟨(HM9.out.stPut k true).cT, (HM9.out.stPut k true).cS, (blk_cell (blk_far (p := ⟨gt, k, none⟩) KX9.out NXT.out (.bool true)) 0).trans rfl, (blk_cell (blk_far (p := ⟨gt, k, none⟩) KX9.out NXT.out (.bool true)) 1).trans rfl, (blk_cell (blk_far (p := ⟨gt, k, none⟩) KX9.out NXT.out (.bool true)) 2).trans rfl, (blk_cell (blk_far (p := ⟨gt, k, none⟩) KX9.out NXT.out (.bool true)) 3).trans rfl, (blk_cell (blk_far (p := ⟨gt, k, none⟩) KX9.out NXT.out (.bool true)) 4).trans rfl, (blk_cell (blk_far (p := ⟨gt, k, none⟩) KX9.out NXT.out (.bool true)) 5).trans rfl⟩ (fun hHeld => ?_)
      clear hK K
      refine pure_ (i := 8) (N := some 127) (v := ?_) (a' := ?_) B39_ rfl rfl (by kernel_rfl) (fun _ _ _ h => h) (Or.inl ⟨by rfl, ?_⟩) ?_ ?_
      rotate_left; · intro w'; go_simp; with_reducible rfl
      rotate_left; · simp only [Act.put, q1_, q2_, q3_, i64_w, i32_w]; rfl
      refine one_ (i := 9) (N := none) B40_ rfl rfl (by kernel_rfl) (by decide) (fun K hK => ?_)
      refine skip_ (w1 := ?_) (by rfl) rfl ?_ ?_
      rotate_left
      ·
       go_simp
       rfl
      refine hK.out _ _ ⟨((HM9.out.stPut k true).isPut k lg).cT, ((HM9.out.stPut k true).isPut k lg).cS, (blk_cell (blk_far (p := ⟨gs, k, none⟩) (blk_far (p := ⟨gt, k, none⟩) KX9.out NXT.out (.bool true)) NXS.out (.int .i64 lg)) 0).trans rfl, (blk_cell (blk_far (p := ⟨gs, k, none⟩) (blk_far (p := ⟨gt, k, none⟩) KX9.out NXT.out (.bool true)) NXS.out (.int .i64 lg)) 1).trans rfl, (blk_cell (blk_far (p := ⟨gs, k, none⟩) (blk_far (p := ⟨gt, k, none⟩) KX9.out NXT.out (.bool true)) NXS.out (.int .i64 lg)) 2).trans rfl, (blk_cell (blk_far (p := ⟨gs, k, none⟩) (blk_far (p := ⟨gt, k, none⟩) KX9.out NXT.out (.bool true)) NXS.out (.int .i64 lg)) 3).trans rfl, (blk_cell (blk_far (p := ⟨gs, k, none⟩) (blk_far (p := ⟨gt, k, none⟩) KX9.out NXT.out (.bool true)) NXS.out (.int .i64 lg)) 4).trans rfl, (blk_cell (blk_far (p := ⟨gs, k, none⟩) (blk_far (p := ⟨gt, k, none⟩) KX9.out NXT.out (.bool true)) NXS.out (.int .i64 lg)) 5).trans rfl⟩ (fun hHeld => ?_)
      clear hK K
      refine done_ (by kernel_rfl) ?_
      have HM10 := Aside0.mk ((HM9.out.stPut k true).isPut k lg)
      have KG10 := Aside0.mk (blk_far (p := ⟨gs, k, none⟩) (blk_far (p := ⟨gt, k, none⟩) KG9.out NGT.out (.bool true)) NGS.out (.int .i64 lg))
      clear ct_ ft_ cs_ fs_ cs2_ fs2_
      go_wp2
      go_roundw
      case rel => exact ⟨k + 1, by omega, by go_num, ⟨by rw [HS1.out, HS2.out]; exact HM10.out⟩, ⟨KG10.out⟩⟩
      case measure => simp [intOf]; omega
    have e1 : decide (lg < a0) = false := decide_eq_false h1
    clear h1
    as_aux_lemma =>
     have HT : Aside0 (atO true ⟨a0, a1, a2, a3, a4, a5⟩ = false) := ⟨by rw [HAT.out, e0, e1]; first | rfl | simp⟩
     rw [HT.out] at HS1 HS2
     go_wp2_with (first | ((with_reducible refine gate_dst (N := 18) rfl ?_); refine box_event rfl (N := 18) rfl (cs := #[.int .i64 0, .int .i64 0, .int .i64 0, .int .i64 0, .int .i64 0, .int .i64 0]) (t := 91) (by first | (go_simp; done) | (go_simp; rfl)) ?_; intro gx hgx w3 hbx hb; have KX0 := Aside0.mk hbx; have HGX : Aside0 (wr.heap.size ≤ gx) := ⟨by omega⟩; have BX := Aside0.mk hb; clear hgx hbx hb) | ((with_reducible refine gate_store (t := 91) (p := 18) rfl ?_); refine store_event (t := 91) (p := 18) (w1 := w3.setCells gx 0 (#[.int .i64 a0, .int .i64 a1, .int .i64 a2, .int .i64 a3, .int .i64 a4, .int .i64 a5] : Array Value).toList) rfl rfl rfl (store_run 91 (.tmp 18) (.tmp 94) gx #[.int .i64 a0, .int .i64 a1, .int .i64 a2, .int .i64 a3, .int .i64 a4, .int .i64 a5] rfl rfl rfl (there_row KX0.out _ (Nat.le_refl 6)) (by kernel_rfl) (all_oneCell_toArray (cs := [.int .i64 a0, .int .i64 a1, .int .i64 a2, .int .i64 a3, .int .i64 a4, .int .i64 a5]) (by intro v hv; simp only [List.mem_cons, List.not_mem_nil, or_false] at hv; rcases hv with rfl | rfl | rfl | rfl | rfl | rfl <;> rfl))) ?_; intro w4 hw3; have KX : Aside0 (w4.heap[gx]? = some (.cells #[.int .i64 a0, .int .i64 a1, .int .i64 a2, .int .i64 a3, .int .i64 a4, .int .i64 a5] 91 (0, 0))) := ⟨by rw [hw3]; exact sets_row KX0.out rfl⟩; have BX3 : Aside0 (Below wr.heap.size wr w4) := ⟨by rw [hw3]; exact sets_below HGX.out _ 0 _ BX.out⟩; clear hw3; have cx0 : w4.cell? ⟨gx, 0, none⟩ = some (.int .i64 a0) := (blk_cell KX.out 0).trans rfl; have cx1 : w4.cell? ⟨gx, 1, none⟩ = some (.int .i64 a1) := (blk_cell KX.out 1).trans rfl; have cx2 : w4.cell? ⟨gx, 2, none⟩ = some (.int .i64 a2) := (blk_cell KX.out 2).trans rfl; have cx3 : w4.cell? ⟨gx, 3, none⟩ = some (.int .i64 a3) := (blk_cell KX.out 3).trans rfl; have cx4 : w4.cell? ⟨gx, 4, none⟩ = some (.int .i64 a4) := (blk_cell KX.out 4).trans rfl; have cx5 : w4.cell? ⟨gx, 5, none⟩ = some (.int .i64 a5) := (blk_cell KX.out 5).trans rfl; have HM4 := Aside0.mk (HM.out.below BX3.out); have KG4 := Aside0.mk (blk_below KG.out BX3.out)))
     clear cx0 cx1 cx2 cx3 cx4 cx5 hx0 hx1 hx2 hx3 hx4 hx5
     have KG4d : Aside0 (w4.drew.heap[gG]? = _) := ⟨KG4.out⟩
     have KX4d : Aside0 (w4.drew.heap[gx]? = _) := ⟨KX.out⟩
     have HM4d := Aside0.mk HM4.out.drew
     refine start_ (n := 25) (S := fun w' => w'.cell? ⟨gG, 0, none⟩ = some (.bool true) ∧ w'.cell? ⟨gx, 0, none⟩ = some (.int .i64 a0) ∧ w'.cell? ⟨gx, 1, none⟩ = some (.int .i64 a1) ∧ w'.cell? ⟨gx, 2, none⟩ = some (.int .i64 a2) ∧ w'.cell? ⟨gx, 3, none⟩ = some (.int .i64 a3) ∧ w'.cell? ⟨gx, 4, none⟩ = some (.int .i64 a4) ∧ w'.cell? ⟨gx, 5, none⟩ = some (.int .i64 a5)) (ds := []) B4_ (by kernel_rfl) rfl rfl ⟨(blk_cell KG4d.out 0).trans rfl, (blk_cell KX4d.out 0).trans rfl, (blk_cell KX4d.out 1).trans rfl, (blk_cell KX4d.out 2).trans rfl, (blk_cell KX4d.out 3).trans rfl, (blk_cell KX4d.out 4).trans rfl, (blk_cell KX4d.out 5).trans rfl⟩ (fun hHeld => ?_)
     refine pure_ (i := 0) (N := some 95) (v := ?_) (a' := ?_) B5_ rfl rfl (by kernel_rfl) (fun _ _ _ h => h) (Or.inl ⟨by rfl, ?_⟩) ?_ ?_
     rotate_left; · intro w'; go_simp; with_reducible rfl
     rotate_left; · simp only [Act.put, q1_, q2_, q3_, i64_w, i32_w]; rfl
     refine take_ (i := 1) (N := some 96) (v := ?_) (a' := ?_) B6_ rfl rfl (by kernel_rfl) (fun _ _ _ h => h) (Or.inl ⟨by rfl, ?_⟩) hHeld ?_ ?_
     rotate_left; · rintro w' ⟨s0, s1, s2, s3, s4, s5, s6⟩; go_simp; with_reducible rfl
     rotate_left; · simp only [Act.put, q1_, q2_, q3_, i64_w, i32_w]; rfl
     refine one_ (i := 2) (N := some 97) B7_ rfl rfl (by kernel_rfl) (by decide) (fun K hK => ?_)
     refine goesT_ Try.func75 (by kernel_rfl) rfl #[.agg #[.int .i64 a0, .int .i64 a1, .int .i64 a2, .int .i64 a3, .int .i64 a4, .int .i64 a5], .pointer (some ⟨gG, 0, none⟩)] (by rfl) rfl rfl rfl (by simp only [List.map_toArray, List.map_cons, List.map_nil]; rfl) ?_
     with_reducible refine (grow_calls gG true a0 a1 a2 a3 a4 a5 _ KG4d.out).mono ?_
     rw [HFV.out]
     rintro e w5 ⟨rfl, hb⟩
     refine ⟨_, rfl, ?_⟩
     have HM5 := Aside0.mk (HM4d.out.below hb)
     have KG5 := Aside0.mk (blk_below KG4d.out hb)
     have KX5 := Aside0.mk (blk_below KX4d.out hb)
     clear hb
     refine hK.out _ _ ⟨(blk_cell KG5.out 0).trans rfl, (blk_cell KX5.out 0).trans rfl, (blk_cell KX5.out 1).trans rfl, (blk_cell KX5.out 2).trans rfl, (blk_cell KX5.out 3).trans rfl, (blk_cell KX5.out 4).trans rfl, (blk_cell KX5.out 5).trans rfl⟩ (fun hHeld => ?_)
     clear hK K
     refine norm_ (a' := ?_) ?_ ?_
     rotate_left
     ·
      show Act.put _ (some 97) _ = _
      simp only [Act.put, q1_, q2_, q3_, i64_w, i32_w]
      rfl
     refine pure_ (i := 3) (N := some 98) (v := ?_) (a' := ?_) B8_ rfl rfl (by kernel_rfl) (fun _ _ _ h => h) (Or.inl ⟨by rfl, ?_⟩) ?_ ?_
     rotate_left; · intro w'; go_simp; with_reducible rfl
     rotate_left; · simp only [Act.put, q1_, q2_, q3_, i64_w, i32_w]; rfl
     refine pure_ (i := 4) (N := some 99) (v := ?_) (a' := ?_) B9_ rfl rfl (by kernel_rfl) (fun _ _ _ h => h) (Or.inl ⟨by rfl, ?_⟩) ?_ ?_
     rotate_left; · intro w'; go_simp; with_reducible rfl
     rotate_left; · simp only [Act.put, q1_, q2_, q3_, i64_w, i32_w]; rfl
     refine take_ (i := 5) (N := some 100) (v := ?_) (a' := ?_) B10_ rfl rfl (by kernel_rfl) (fun _ _ _ h => h) (Or.inl ⟨by rfl, ?_⟩) hHeld ?_ ?_
     rotate_left; · rintro w' ⟨s0, s1, s2, s3, s4, s5, s6⟩; go_simp; with_reducible rfl
     rotate_left; · simp only [Act.put, q1_, q2_, q3_, i64_w, i32_w]; rfl
     refine pure_ (i := 6) (N := some 101) (v := ?_) (a' := ?_) B11_ rfl rfl (by kernel_rfl) (fun _ _ _ h => h) (Or.inl ⟨by rfl, ?_⟩) ?_ ?_
     rotate_left; · intro w'; go_simp; with_reducible rfl
     rotate_left; · simp only [Act.put, q1_, q2_, q3_, i64_w, i32_w]; rfl
     refine pure_ (i := 7) (N := some 102) (v := ?_) (a' := ?_) B12_ rfl rfl (by kernel_rfl) (fun _ _ _ h => h) (Or.inl ⟨by rfl, ?_⟩) ?_ ?_
     rotate_left; · intro w'; go_simp; with_reducible rfl
     rotate_left; · simp only [Act.put, q1_, q2_, q3_, i64_w, i32_w]; rfl
     refine take_ (i := 8) (N := some 103) (v := ?_) (a' := ?_) B13_ rfl rfl (by kernel_rfl) (fun _ _ _ h => h) (Or.inl ⟨by rfl, ?_⟩) hHeld ?_ ?_
     rotate_left; · rintro w' ⟨s0, s1, s2, s3, s4, s5, s6⟩; go_simp; with_reducible rfl
     rotate_left; · simp only [Act.put, q1_, q2_, q3_, i64_w, i32_w]; rfl
     refine take_ (i := 9) (N := some 104) (v := ?_) (a' := ?_) B14_ rfl rfl (by kernel_rfl) (fun _ _ _ h => h) (Or.inl ⟨by rfl, ?_⟩) hHeld ?_ ?_
     rotate_left; · rintro w' ⟨s0, s1, s2, s3, s4, s5, s6⟩; go_simp; with_reducible rfl
     rotate_left; · simp only [Act.put, q1_, q2_, q3_, i64_w, i32_w]; rfl
     refine one_ (i := 10) (N := some 105) B15_ rfl rfl (by kernel_rfl) (by decide) (fun K hK => ?_)
     refine goes_ Try.func74 (by kernel_rfl) rfl #[.agg #[.int .i64 a0, .int .i64 a1, .int .i64 a2, .int .i64 a3, .int .i64 a4, .int .i64 a5]] (by rfl) rfl rfl (by simp only [List.map_toArray, List.map_cons, List.map_nil]; rfl) ?_
     with_reducible refine (rlong_calls a0 a1 a2 a3 a4 a5 _).mono ?_
     rintro e w6 ⟨rfl, hb⟩
     refine ⟨_, rfl, ?_⟩
     rw [HLGX.out]
     have HM6 := Aside0.mk (HM5.out.below hb)
     have KG6 := Aside0.mk (blk_below KG5.out hb)
     have KX6 := Aside0.mk (blk_below KX5.out hb)
     clear hb
     refine hK.out _ _ ⟨(blk_cell KG6.out 0).trans rfl, (blk_cell KX6.out 0).trans rfl, (blk_cell KX6.out 1).trans rfl, (blk_cell KX6.out 2).trans rfl, (blk_cell KX6.out 3).trans rfl, (blk_cell KX6.out 4).trans rfl, (blk_cell KX6.out 5).trans rfl⟩ (fun hHeld => ?_)
     clear hK K
     refine norm_ (a' := ?_) ?_ ?_
     rotate_left
     ·
      show Act.put _ (some 105) _ = _
      simp only [Act.put, q1_, q2_, q3_, i64_w, i32_w]
      rfl
     refine pure_ (i := 11) (N := some 106) (v := ?_) (a' := ?_) B16_ rfl rfl (by kernel_rfl) (fun _ _ _ h => h) (Or.inl ⟨by rfl, ?_⟩) ?_ ?_
     rotate_left; · intro w'; go_simp; with_reducible rfl
     rotate_left; · simp only [Act.put, q1_, q2_, q3_, i64_w, i32_w]; rfl
     refine pure_ (i := 12) (N := some 107) (v := ?_) (a' := ?_) B17_ rfl rfl (by kernel_rfl) (fun _ _ _ h => h) (Or.inl ⟨by rfl, ?_⟩) ?_ ?_
     rotate_left; · intro w'; go_simp; with_reducible rfl
     rotate_left; · simp only [Act.put, q1_, q2_, q3_, i64_w, i32_w]; rfl
     refine pure_ (i := 13) (N := some 108) (v := ?_) (a' := ?_) B18_ rfl rfl (by kernel_rfl) (fun _ _ _ h => h) (Or.inl ⟨by rfl, ?_⟩) ?_ ?_
     rotate_left; · intro w'; go_simp; with_reducible rfl
     rotate_left; · simp only [Act.put, q1_, q2_, q3_, i64_w, i32_w]; rfl
     refine pure_ (i := 14) (N := some 109) (v := ?_) (a' := ?_) B19_ rfl rfl (by kernel_rfl) (fun _ _ _ h => h) (Or.inl ⟨by rfl, ?_⟩) ?_ ?_
     rotate_left; · intro w'; go_simp; with_reducible rfl
     rotate_left; · simp only [Act.put, q1_, q2_, q3_, i64_w, i32_w]; rfl
     refine take_ (i := 15) (N := some 110) (v := ?_) (a' := ?_) B20_ rfl rfl (by kernel_rfl) (fun _ _ _ h => h) (Or.inl ⟨by rfl, ?_⟩) hHeld ?_ ?_
     rotate_left; · rintro w' ⟨s0, s1, s2, s3, s4, s5, s6⟩; go_simp; with_reducible rfl
     rotate_left; · simp only [Act.put, q1_, q2_, q3_, i64_w, i32_w]; rfl
     refine pure_ (i := 16) (N := some 111) (v := ?_) (a' := ?_) B21_ rfl rfl (by kernel_rfl) (fun _ _ _ h => h) (Or.inl ⟨by rfl, ?_⟩) ?_ ?_
     rotate_left; · intro w'; go_simp; with_reducible rfl
     rotate_left; · simp only [Act.put, q1_, q2_, q3_, i64_w, i32_w]; rfl
     refine pure_ (i := 17) (N := some 112) (v := ?_) (a' := ?_) B22_ rfl rfl (by kernel_rfl) (fun _ _ _ h => h) (Or.inl ⟨by rfl, ?_⟩) ?_ ?_
     rotate_left; · intro w'; go_simp; with_reducible rfl
     rotate_left; · simp only [Act.put, q1_, q2_, q3_, i64_w, i32_w]; rfl
     refine pure_ (i := 18) (N := some 113) (v := undef) (a' := ?_) B23_ rfl rfl (by kernel_rfl) (fun _ _ _ h => h) (Or.inr ⟨by rfl, rfl⟩) ?_ ?_
     rotate_left; · simp only [Act.put, q1_, q2_, q3_, i64_w, i32_w]; rfl
     refine pure_ (i := 19) (N := some 114) (v := undef) (a' := ?_) B24_ rfl rfl (by kernel_rfl) (fun _ _ _ h => h) (Or.inr ⟨by rfl, rfl⟩) ?_ ?_
     rotate_left; · simp only [Act.put, q1_, q2_, q3_, i64_w, i32_w]; rfl
     refine pure_ (i := 20) (N := some 115) (v := undef) (a' := ?_) B25_ rfl rfl (by kernel_rfl) (fun _ _ _ h => h) (Or.inr ⟨by rfl, rfl⟩) ?_ ?_
     rotate_left; · simp only [Act.put, q1_, q2_, q3_, i64_w, i32_w]; rfl
     refine pure_ (i := 21) (N := some 116) (v := undef) (a' := ?_) B26_ rfl rfl (by kernel_rfl) (fun _ _ _ h => h) (Or.inr ⟨by rfl, rfl⟩) ?_ ?_
     rotate_left; · simp only [Act.put, q1_, q2_, q3_, i64_w, i32_w]; rfl
     refine pure_ (i := 22) (N := some 117) (v := undef) (a' := ?_) B27_ rfl rfl (by kernel_rfl) (fun _ _ _ h => h) (Or.inr ⟨by rfl, rfl⟩) ?_ ?_
     rotate_left; · simp only [Act.put, q1_, q2_, q3_, i64_w, i32_w]; rfl
     refine pure_ (i := 23) (N := some 118) (v := ?_) (a' := ?_) B28_ rfl rfl (by kernel_rfl) (fun _ _ _ h => h) (Or.inl ⟨by rfl, ?_⟩) ?_ ?_
     rotate_left; · intro w'; go_simp; with_reducible rfl
     rotate_left; · simp only [Act.put, q1_, q2_, q3_, i64_w, i32_w]; rfl
     refine pure_ (i := 24) (N := some 119) (v := ?_) (a' := ?_) B29_ rfl rfl (by kernel_rfl) (fun _ _ _ h => h) (Or.inl ⟨by rfl, ?_⟩) ?_ ?_
     rotate_left; · intro w'; go_simp; with_reducible rfl
     rotate_left; · simp only [Act.put, q1_, q2_, q3_, i64_w, i32_w]; rfl
     refine done_ (by kernel_rfl) ?_
     go_wp2
     go_roundw
     case rel => exact ⟨k + 1, by omega, by go_num, ⟨by rw [HS1.out, HS2.out]; exact HM6.out⟩, ⟨KG6.out⟩⟩
     case measure => simp [intOf]; omega
   obtain rfl : n = k := by omega
   have HLP : Aside0 (loopR gr L X n (freeN L X (isN gr X n n) (stN gr X n n) n) k_ (isN gr X n n) (stN gr X n n) = some r) := ⟨by have h := HR0.out; (try simp only at h); rw [HXE.out, HLE.out, HLO.out, HGR.out] at h; exact h⟩
   obtain ⟨bg, hbg⟩ : ∃ q, freeN L X (isN gr X n n) (stN gr X n n) n = q := ⟨_, rfl⟩
   have HBG := Aside0.mk hbg
   rw [hbg] at HLP
   clear hbg
   have HFR := Aside0.mk (HM.out.free_calls HL.out)
   rw [HBG.out] at HFR
   obtain ⟨Y0, hY0⟩ : ∃ q, isN gr X n n = q := ⟨_, rfl⟩
   obtain ⟨Z0, hZ0⟩ : ∃ q, stN gr X n n = q := ⟨_, rfl⟩
   rw [hY0, hZ0] at HM HLP
   clear hY0 hZ0 HBG HR0
   go_wp2_with (go_at_call 76; (with_reducible refine HFR.out.mono ?_); rintro e w9 ⟨rfl, hb⟩; have HM9 := Aside0.mk (HM.out.below hb); have KG9 := Aside0.mk (blk_below KG.out hb); clear hb)
   clear HM KG HFR
   go_loopg [21] k_ (fun kq v_ wq => ∃ Y Z, Aside0 (loopR gr L X n bg kq Y Z = some r) ∧ Aside0 (kq ≤ k_) ∧ Aside0 (RM w wq gL g6 g7 g8 A1 A3 A5 c1 c3 c5 n L X Y Z) ∧ Aside0 (wq.heap[gG]? = some (.cells #[.bool gr] 4 (0, 0))))
   case atStart => exact ⟨_, _, HLP, ⟨Nat.le_refl _⟩, HM9, KG9⟩
   case round => as_aux_lemma =>
    clear HM9 KG9 HLP
    obtain ⟨Y, Z, HLO_, HK1, HM, KG⟩ := hrel
    cases gk with
    | zero => exact absurd HLO_.out (by simp [loopR])
    | succ k1 =>
     have HLOP : Aside0 ((if opR Z n then loopR gr L X n bg k1 (turnR gr L X n bg Y Z).1 (turnR gr L X n bg Y Z).2 else some Y) = some r) := HLO_
     clear HLO_
     obtain ⟨nw, hnw⟩ : ∃ q, freeN L X Y Z n = q := ⟨_, rfl⟩
     have HFR := Aside0.mk (HM.out.free_calls HL.out)
     rw [hnw] at HFR
     have HNW := Aside0.mk hnw
     clear hnw
     go_wp2_with (first | (go_at_call 76; (with_reducible refine HFR.out.mono ?_); rintro e w10 ⟨rfl, hb⟩; have HM10 := Aside0.mk (HM.out.below hb); have KG10 := Aside0.mk (blk_below KG.out hb); clear hb) | ((with_reducible refine gate_dst (N := 135) rfl ?_); refine Kd.R_make (Kd.int .i64) _ 3 rfl (N := 135) rfl 51 _ _ rfl (n : Int) rfl rfl Try.underlying51 (.int .i64 0) 8 info3 rfl (by decide) (by omega) 0 (ok := fun _ => True) (okp := fun _ => True) rfl (fun _ hk => hk) trivial (by omega) (by omega) (Below.refl _ _) (Nat.le_refl _) ?_; intro vw w11 ho hb hg_ hat; simp only [Int.toNat_natCast] at ho; obtain ⟨Aw, cw, rfl⟩ := Kd.R_slice ho; rw [List.length_replicate] at ho; have KW11 := Aside0.mk ho; have HM11 := Aside0.mk (HM10.out.below hb); have KG11 := Aside0.mk (blk_below KG10.out hb); have GW : Aside0 (gG < w10.heap.size) := ⟨blk_lt KG10.out⟩; have cI11 := HM11.out.cI; clear ho hb hg_ hat))
     clear HM10 KG10 cI11 HFR HM KG
     go_loopw [22, 24, 138] (fun s_ o_ i wr => ∃ k : Nat, k ≤ n ∧ s_ = .int .i64 (sumR gr X Z k) ∧ o_ = .bool (opR Z k) ∧ i = .int .i64 k ∧ Aside0 (RM w wr gL g6 g7 g8 A1 A3 A5 c1 c3 c5 n L X Y Z) ∧ Aside0 (wr.heap[gG]? = some (.cells #[.bool gr] 4 (0, 0))) ∧ Aside0 (Kd.R (Kd.int .i64) 3 wr w10.heap.size (fun _ => True) (.slice Aw n cw) (wR gr X Z n k))) (fun _ _ i _ => n - (intOf i).toNat)
     case atStart => exact ⟨0, Nat.zero_le _, rfl, rfl, rfl, HM11, KG11, KW11⟩
     case round => as_aux_lemma =>
      clear HM11 KG11 KW11
      obtain ⟨k, hk, rfl, rfl, rfl, HM, KG, KW⟩ := hrel
      by_cases hlt : k < n
      ·
       obtain ⟨gi, gs, gt, rfl, rfl, rfl⟩ := HM.out.forms (by omega)
       obtain ⟨gw, cw', hAw, _, _⟩ := Kd.R_form KW.out (by rw [wR_length]; omega)
       injection hAw with hAw hq_ hcw
       subst hAw; subst hcw; clear hq_
       have NGW : Aside0 (w10.heap.size ≤ gw) := ⟨Kd.R_base KW.out gw rfl⟩
       obtain ⟨x, hx⟩ : ∃ x, rd_T91 X (k : Int) = x := ⟨_, rfl⟩
       obtain ⟨z, hz⟩ : ∃ z, rdOf false Z (k : Int) = z := ⟨_, rfl⟩
       have HS1 : Aside0 (sumR gr X Z (k + 1) = if z then sumR gr X Z k else wrap64 (sumR gr X Z k + fac91 gr x)) := ⟨by rw [← hx, ← hz]; rfl⟩
       have HS2 : Aside0 (opR Z (k + 1) = if z then opR Z k else true) := ⟨by rw [← hz]; rfl⟩
       have HS3 : Aside0 (wR gr X Z n (k + 1) = if z then wR gr X Z n k else (wR gr X Z n k).set k (wgt gr x)) := ⟨by rw [← hx, ← hz]; rfl⟩
       have hzc := (Kd.R_celln false HM.out.RT (k : Int) (by omega) (by omega)).1
       simp only [Int.toNat_natCast] at hzc
       rw [show rdOf false Z (k : Int) = z from hz] at hzc
       obtain ⟨a0, a1, a2, a3, a4, a5⟩ := x
       have hx0 := (row_get91 HM.out.RI (k : Int) (by omega) (by omega) 0 _ (by rw [hx]; rfl)).1
       have hx1 := (row_get91 HM.out.RI (k : Int) (by omega) (by omega) 1 _ (by rw [hx]; rfl)).1
       have hx2 := (row_get91 HM.out.RI (k : Int) (by omega) (by omega) 2 _ (by rw [hx]; rfl)).1
       have hx3 := (row_get91 HM.out.RI (k : Int) (by omega) (by omega) 3 _ (by rw [hx]; rfl)).1
       have hx4 := (row_get91 HM.out.RI (k : Int) (by omega) (by omega) 4 _ (by rw [hx]; rfl)).1
       have hx5 := (row_get91 HM.out.RI (k : Int) (by omega) (by omega) 5 _ (by rw [hx]; rfl)).1
       simp only [Int.toNat_natCast, Nat.add_zero] at hx0 hx1 hx2 hx3 hx4 hx5
       clear hx hz
       obtain ⟨sm, hsm⟩ : ∃ q, sumR gr X Z k = q := ⟨_, rfl⟩
       obtain ⟨ob, hob⟩ : ∃ q, opR Z k = q := ⟨_, rfl⟩
       rw [hsm] at HS1 ⊢
       rw [hob] at HS2 ⊢
       clear hsm hob
       obtain ⟨fv, hfv⟩ : ∃ q, fac91 gr ⟨a0, a1, a2, a3, a4, a5⟩ = q := ⟨_, rfl⟩
       rw [hfv] at HS1
       have HFV := Aside0.mk hfv
       clear hfv
       obtain ⟨mq, hmq⟩ : ∃ q, mx 0 a0 = q := ⟨_, rfl⟩
       have hmq_ : (if 0 < a0 then a0 else 0) = mq := hmq
       have HWG : Aside0 (wgt gr ⟨a0, a1, a2, a3, a4, a5⟩ = if gr then a3 else part a4 mq 64) := ⟨by rw [← hmq]; rfl⟩
       rw [HWG.out] at HS3
       clear hmq
       cases z
       ·
        cases gr
        ·
         as_aux_lemma =>
          go_wp2_with (first | ((with_reducible refine gate_dst (N := 26) rfl ?_); refine box_event rfl (N := 26) rfl (cs := #[.int .i64 0, .int .i64 0, .int .i64 0, .int .i64 0, .int .i64 0, .int .i64 0]) (t := 91) (by first | (go_simp; done) | (go_simp; rfl)) ?_; intro gx hgx w3 hbx hb; have KX0 := Aside0.mk hbx; have HGX : Aside0 (wr.heap.size ≤ gx) := ⟨by omega⟩; have BX := Aside0.mk hb; clear hgx hbx hb) | ((with_reducible refine gate_store (t := 91) (p := 26) rfl ?_); refine store_event (t := 91) (p := 26) (w1 := w3.setCells gx 0 (#[.int .i64 a0, .int .i64 a1, .int .i64 a2, .int .i64 a3, .int .i64 a4, .int .i64 a5] : Array Value).toList) rfl rfl rfl (store_run 91 (.tmp 26) (.tmp 142) gx #[.int .i64 a0, .int .i64 a1, .int .i64 a2, .int .i64 a3, .int .i64 a4, .int .i64 a5] rfl rfl rfl (there_row KX0.out _ (Nat.le_refl 6)) (by kernel_rfl) (all_oneCell_toArray (cs := [.int .i64 a0, .int .i64 a1, .int .i64 a2, .int .i64 a3, .int .i64 a4, .int .i64 a5]) (by intro v hv; simp only [List.mem_cons, List.not_mem_nil, or_false] at hv; rcases hv with rfl | rfl | rfl | rfl | rfl | rfl <;> rfl))) ?_; intro w4 hw3; have KX : Aside0 (w4.heap[gx]? = some (.cells #[.int .i64 a0, .int .i64 a1, .int .i64 a2, .int .i64 a3, .int .i64 a4, .int .i64 a5] 91 (0, 0))) := ⟨by rw [hw3]; exact sets_row KX0.out rfl⟩; have BX3 : Aside0 (Below wr.heap.size wr w4) := ⟨by rw [hw3]; exact sets_below HGX.out _ 0 _ BX.out⟩; clear hw3; have cx0 : w4.cell? ⟨gx, 0, none⟩ = some (.int .i64 a0) := (blk_cell KX.out 0).trans rfl; have cx1 : w4.cell? ⟨gx, 1, none⟩ = some (.int .i64 a1) := (blk_cell KX.out 1).trans rfl; have cx2 : w4.cell? ⟨gx, 2, none⟩ = some (.int .i64 a2) := (blk_cell KX.out 2).trans rfl; have cx3 : w4.cell? ⟨gx, 3, none⟩ = some (.int .i64 a3) := (blk_cell KX.out 3).trans rfl; have cx4 : w4.cell? ⟨gx, 4, none⟩ = some (.int .i64 a4) := (blk_cell KX.out 4).trans rfl; have cx5 : w4.cell? ⟨gx, 5, none⟩ = some (.int .i64 a5) := (blk_cell KX.out 5).trans rfl; have HM4 := Aside0.mk (HM.out.below BX3.out); have KG4 := Aside0.mk (blk_below KG.out BX3.out); have KW4 := Aside0.mk (Kd.R_below KW.out BX3.out); have cT4 := HM4.out.cT; have hz4 : w4.cell? ⟨gt, k, none⟩ = some (.bool false) := cell_below hzc BX3.out) | (go_at_call 75; (with_reducible refine (grow_calls gG false a0 a1 a2 a3 a4 a5 _ KG4.out).mono ?_); rw [HFV.out]; rintro e w5 ⟨rfl, hb⟩; have HM5 := Aside0.mk (HM4.out.below hb); have KG5 := Aside0.mk (blk_below KG4.out hb); have KW5 := Aside0.mk (Kd.R_below KW4.out hb); have KX5 := Aside0.mk (blk_below KX.out hb); have NXW : Aside0 (gx ≠ gw) := ⟨by have h1 := Kd.R_lt KW.out gw rfl; have h2 := HGX.out; omega⟩; have NGG : Aside0 (gG ≠ gw) := ⟨by have h1 := GW.out; have h2 := NGW.out; omega⟩; obtain ⟨cw5, fw5⟩ := Kd.R_celln (0 : Int) KW5.out (k : Int) (by omega) (by omega); have cw5_ : w5.cell? ⟨gw, k, none⟩ = _ := cw5; have fw5_ : w5.frozen? ⟨gw, k, none⟩ = _ := fw5; obtain ⟨cc5, hcc5⟩ := Kd.R_typed KW5.out gw rfl; have HM6 := Aside0.mk (HM5.out.far (g := gw) (by have h1 := GW.out; have h2 := NGW.out; have h3 := GG.out; omega) hcc5 (by decide) (by decide) (by decide) k (.int .i64 a3)); have KG6 := Aside0.mk (blk_far (p := ⟨gw, k, none⟩) KG5.out NGG.out (.int .i64 a3)); have KX6 := Aside0.mk (blk_far (p := ⟨gw, k, none⟩) KX5.out NXW.out (.int .i64 a3)); have KW6 : Aside0 (Kd.R (Kd.int .i64) 3 (w5.setCell ⟨gw, k, none⟩ (.int .i64 a3)) w10.heap.size (fun _ => True) (.slice (some ⟨gw, 0, none⟩) n cw) ((wR false X Z n k).set k a3)) := ⟨by have h := Kd.R_putn KW5.out (k : Int) a3; simp only [Int.toNat_natCast] at h; exact h⟩; have dx3 : w5.cell? ⟨gx, 3, none⟩ = some (.int .i64 a3) := (blk_cell KX5.out 3).trans rfl; have cG6 : (w5.setCell ⟨gw, k, none⟩ (.int .i64 a3)).cell? ⟨gG, 0, none⟩ = some (.bool false) := (blk_cell KG6.out 0).trans rfl; have dx4 : (w5.setCell ⟨gw, k, none⟩ (.int .i64 a3)).cell? ⟨gx, 4, none⟩ = some (.int .i64 a4) := (blk_cell KX6.out 4).trans rfl; have dx0 : (w5.setCell ⟨gw, k, none⟩ (.int .i64 a3)).cell? ⟨gx, 0, none⟩ = some (.int .i64 a0) := (blk_cell KX6.out 0).trans rfl; clear hb cw5 fw5 hcc5))
          as_aux_lemma =>
           go_wp2_with (first | (go_at_call 48; (with_reducible refine (rpart_calls a4 mq 64 _).mono ?_); rintro e w7 ⟨rfl, hb⟩; have HM7 := Aside0.mk (HM6.out.below hb); have KG7 := Aside0.mk (blk_below KG6.out hb); have KW7 := Aside0.mk (Kd.R_below KW6.out hb); obtain ⟨cw7, fw7⟩ := Kd.R_celln (0 : Int) KW7.out (k : Int) (by omega) (by omega); have cw7_ : w7.cell? ⟨gw, k, none⟩ = _ := cw7; have fw7_ : w7.frozen? ⟨gw, k, none⟩ = _ := fw7; clear hb cw7 fw7))
           obtain ⟨cc7, hcc7⟩ := Kd.R_typed KW7.out gw rfl
           have HM8 := Aside0.mk (HM7.out.far (g := gw) (by have h1 := GW.out; have h2 := NGW.out; have h3 := GG.out; omega) hcc7 (by decide) (by decide) (by decide) k (.int .i64 (part a4 mq 64)))
           have KG8 := Aside0.mk (blk_far (p := ⟨gw, k, none⟩) KG7.out NGG.out (.int .i64 (part a4 mq 64)))
           have KW8 := Kd.R_putn KW7.out (k : Int) (part a4 mq 64)
           simp only [Int.toNat_natCast, List.set_set] at KW8
           have KW8_ := Aside0.mk KW8
           clear KW8 hcc7 cw7_ fw7_ cw5_ fw5_ dx3 dx4 dx0 cG6 cT4 hz4
           go_roundw
           case rel => exact ⟨k + 1, by omega, by rw [HS1.out]; rfl, by rw [HS2.out]; rfl, by go_num, HM8, KG8, ⟨by rw [HS3.out, if_neg Bool.false_ne_true, if_neg Bool.false_ne_true]; exact KW8_.out⟩⟩
           case measure => simp [intOf]; omega
        as_aux_lemma =>
         go_wp2_with (first | ((with_reducible refine gate_dst (N := 26) rfl ?_); refine box_event rfl (N := 26) rfl (cs := #[.int .i64 0, .int .i64 0, .int .i64 0, .int .i64 0, .int .i64 0, .int .i64 0]) (t := 91) (by first | (go_simp; done) | (go_simp; rfl)) ?_; intro gx hgx w3 hbx hb; have KX0 := Aside0.mk hbx; have HGX : Aside0 (wr.heap.size ≤ gx) := ⟨by omega⟩; have BX := Aside0.mk hb; clear hgx hbx hb) | ((with_reducible refine gate_store (t := 91) (p := 26) rfl ?_); refine store_event (t := 91) (p := 26) (w1 := w3.setCells gx 0 (#[.int .i64 a0, .int .i64 a1, .int .i64 a2, .int .i64 a3, .int .i64 a4, .int .i64 a5] : Array Value).toList) rfl rfl rfl (store_run 91 (.tmp 26) (.tmp 142) gx #[.int .i64 a0, .int .i64 a1, .int .i64 a2, .int .i64 a3, .int .i64 a4, .int .i64 a5] rfl rfl rfl (there_row KX0.out _ (Nat.le_refl 6)) (by kernel_rfl) (all_oneCell_toArray (cs := [.int .i64 a0, .int .i64 a1, .int .i64 a2, .int .i64 a3, .int .i64 a4, .int .i64 a5]) (by intro v hv; simp only [List.mem_cons, List.not_mem_nil, or_false] at hv; rcases hv with rfl | rfl | rfl | rfl | rfl | rfl <;> rfl))) ?_; intro w4 hw3; have KX : Aside0 (w4.heap[gx]? = some (.cells #[.int .i64 a0, .int .i64 a1, .int .i64 a2, .int .i64 a3, .int .i64 a4, .int .i64 a5] 91 (0, 0))) := ⟨by rw [hw3]; exact sets_row KX0.out rfl⟩; have BX3 : Aside0 (Below wr.heap.size wr w4) := ⟨by rw [hw3]; exact sets_below HGX.out _ 0 _ BX.out⟩; clear hw3; have cx0 : w4.cell? ⟨gx, 0, none⟩ = some (.int .i64 a0) := (blk_cell KX.out 0).trans rfl; have cx1 : w4.cell? ⟨gx, 1, none⟩ = some (.int .i64 a1) := (blk_cell KX.out 1).trans rfl; have cx2 : w4.cell? ⟨gx, 2, none⟩ = some (.int .i64 a2) := (blk_cell KX.out 2).trans rfl; have cx3 : w4.cell? ⟨gx, 3, none⟩ = some (.int .i64 a3) := (blk_cell KX.out 3).trans rfl; have cx4 : w4.cell? ⟨gx, 4, none⟩ = some (.int .i64 a4) := (blk_cell KX.out 4).trans rfl; have cx5 : w4.cell? ⟨gx, 5, none⟩ = some (.int .i64 a5) := (blk_cell KX.out 5).trans rfl; have HM4 := Aside0.mk (HM.out.below BX3.out); have KG4 := Aside0.mk (blk_below KG.out BX3.out); have KW4 := Aside0.mk (Kd.R_below KW.out BX3.out); have cT4 := HM4.out.cT; have hz4 : w4.cell? ⟨gt, k, none⟩ = some (.bool false) := cell_below hzc BX3.out) | (go_at_call 75; (with_reducible refine (grow_calls gG true a0 a1 a2 a3 a4 a5 _ KG4.out).mono ?_); rw [HFV.out]; rintro e w5 ⟨rfl, hb⟩; have HM5 := Aside0.mk (HM4.out.below hb); have KG5 := Aside0.mk (blk_below KG4.out hb); have KW5 := Aside0.mk (Kd.R_below KW4.out hb); have KX5 := Aside0.mk (blk_below KX.out hb); have NXW : Aside0 (gx ≠ gw) := ⟨by have h1 := Kd.R_lt KW.out gw rfl; have h2 := HGX.out; omega⟩; have NGG : Aside0 (gG ≠ gw) := ⟨by have h1 := GW.out; have h2 := NGW.out; omega⟩; obtain ⟨cw5, fw5⟩ := Kd.R_celln (0 : Int) KW5.out (k : Int) (by omega) (by omega); have cw5_ : w5.cell? ⟨gw, k, none⟩ = _ := cw5; have fw5_ : w5.frozen? ⟨gw, k, none⟩ = _ := fw5; obtain ⟨cc5, hcc5⟩ := Kd.R_typed KW5.out gw rfl; have HM6 := Aside0.mk (HM5.out.far (g := gw) (by have h1 := GW.out; have h2 := NGW.out; have h3 := GG.out; omega) hcc5 (by decide) (by decide) (by decide) k (.int .i64 a3)); have KG6 := Aside0.mk (blk_far (p := ⟨gw, k, none⟩) KG5.out NGG.out (.int .i64 a3)); have KX6 := Aside0.mk (blk_far (p := ⟨gw, k, none⟩) KX5.out NXW.out (.int .i64 a3)); have KW6 : Aside0 (Kd.R (Kd.int .i64) 3 (w5.setCell ⟨gw, k, none⟩ (.int .i64 a3)) w10.heap.size (fun _ => True) (.slice (some ⟨gw, 0, none⟩) n cw) ((wR true X Z n k).set k a3)) := ⟨by have h := Kd.R_putn KW5.out (k : Int) a3; simp only [Int.toNat_natCast] at h; exact h⟩; have dx3 : w5.cell? ⟨gx, 3, none⟩ = some (.int .i64 a3) := (blk_cell KX5.out 3).trans rfl; have cG6 : (w5.setCell ⟨gw, k, none⟩ (.int .i64 a3)).cell? ⟨gG, 0, none⟩ = some (.bool true) := (blk_cell KG6.out 0).trans rfl; have dx4 : (w5.setCell ⟨gw, k, none⟩ (.int .i64 a3)).cell? ⟨gx, 4, none⟩ = some (.int .i64 a4) := (blk_cell KX6.out 4).trans rfl; have dx0 : (w5.setCell ⟨gw, k, none⟩ (.int .i64 a3)).cell? ⟨gx, 0, none⟩ = some (.int .i64 a0) := (blk_cell KX6.out 0).trans rfl; clear hb cw5 fw5 hcc5))
         go_roundw
         case rel => exact ⟨k + 1, by omega, by rw [HS1.out]; rfl, by rw [HS2.out]; rfl, by go_num, HM6, KG6, ⟨by rw [HS3.out, if_neg Bool.false_ne_true, if_pos trivial]; exact KW6.out⟩⟩
         case measure => simp [intOf]; omega
       go_wp2_with (first | ((with_reducible refine gate_dst (N := 26) rfl ?_); refine box_event rfl (N := 26) rfl (cs := #[.int .i64 0, .int .i64 0, .int .i64 0, .int .i64 0, .int .i64 0, .int .i64 0]) (t := 91) (by first | (go_simp; done) | (go_simp; rfl)) ?_; intro gx hgx w3 hbx hb; have KX0 := Aside0.mk hbx; have HGX : Aside0 (wr.heap.size ≤ gx) := ⟨by omega⟩; have BX := Aside0.mk hb; clear hgx hbx hb) | ((with_reducible refine gate_store (t := 91) (p := 26) rfl ?_); refine store_event (t := 91) (p := 26) (w1 := w3.setCells gx 0 (#[.int .i64 a0, .int .i64 a1, .int .i64 a2, .int .i64 a3, .int .i64 a4, .int .i64 a5] : Array Value).toList) rfl rfl rfl (store_run 91 (.tmp 26) (.tmp 142) gx #[.int .i64 a0, .int .i64 a1, .int .i64 a2, .int .i64 a3, .int .i64 a4, .int .i64 a5] rfl rfl rfl (there_row KX0.out _ (Nat.le_refl 6)) (by kernel_rfl) (all_oneCell_toArray (cs := [.int .i64 a0, .int .i64 a1, .int .i64 a2, .int .i64 a3, .int .i64 a4, .int .i64 a5]) (by intro v hv; simp only [List.mem_cons, List.not_mem_nil, or_false] at hv; rcases hv with rfl | rfl | rfl | rfl | rfl | rfl <;> rfl))) ?_; intro w4 hw3; have KX : Aside0 (w4.heap[gx]? = some (.cells #[.int .i64 a0, .int .i64 a1, .int .i64 a2, .int .i64 a3, .int .i64 a4, .int .i64 a5] 91 (0, 0))) := ⟨by rw [hw3]; exact sets_row KX0.out rfl⟩; have BX3 : Aside0 (Below wr.heap.size wr w4) := ⟨by rw [hw3]; exact sets_below HGX.out _ 0 _ BX.out⟩; clear hw3; have cx0 : w4.cell? ⟨gx, 0, none⟩ = some (.int .i64 a0) := (blk_cell KX.out 0).trans rfl; have cx1 : w4.cell? ⟨gx, 1, none⟩ = some (.int .i64 a1) := (blk_cell KX.out 1).trans rfl; have cx2 : w4.cell? ⟨gx, 2, none⟩ = some (.int .i64 a2) := (blk_cell KX.out 2).trans rfl; have cx3 : w4.cell? ⟨gx, 3, none⟩ = some (.int .i64 a3) := (blk_cell KX.out 3).trans rfl; have cx4 : w4.cell? ⟨gx, 4, none⟩ = some (.int .i64 a4) := (blk_cell KX.out 4).trans rfl; have cx5 : w4.cell? ⟨gx, 5, none⟩ = some (.int .i64 a5) := (blk_cell KX.out 5).trans rfl; have HM4 := Aside0.mk (HM.out.below BX3.out); have KG4 := Aside0.mk (blk_below KG.out BX3.out); have KW4 := Aside0.mk (Kd.R_below KW.out BX3.out); have cT4 := HM4.out.cT; have hz4 : w4.cell? ⟨gt, k, none⟩ = some (.bool true) := cell_below hzc BX3.out))
       go_roundw
       case rel => exact ⟨k + 1, by omega, by rw [HS1.out]; rfl, by rw [HS2.out]; rfl, by go_num, HM4, KG4, ⟨by rw [HS3.out, if_pos rfl]; exact KW4.out⟩⟩
       case measure => simp [intOf]; omega
      obtain rfl : n = k := by omega
      cases hop : opR Z n
      ·
       have H := HLOP.out
       rw [hop] at H
       simp only [Bool.false_eq_true, if_false] at H
       have HYR : Y = r := Option.some.inj H
       clear H HLOP
       subst HYR
       have cS := HM.out.cS
       have HZ0 := Aside0.mk (Kd.R_nil (Kd.int .i64) 3 wr w.heap.size (fun q => gL < q))
       go_wp2_with fail
       clear cS KW KG
       go_loopw [36, 286] (fun v i wr => ∃ k : Nat, k ≤ n ∧ i = .int .i64 k ∧ Aside0 (Kd.R (Kd.int .i64) 3 wr w.heap.size (fun q => gL < q) v ((Y.take k).map fun x => mx 0 x)) ∧ Aside0 (RM w wr gL g6 g7 g8 A1 A3 A5 c1 c3 c5 n L X Y Z)) (fun _ i _ => n - (intOf i).toNat)
       case atStart => exact ⟨0, Nat.zero_le _, rfl, HZ0, HM⟩
       case round => as_aux_lemma =>
        clear HM HZ0
        obtain ⟨k, hk, rfl, KV, HM⟩ := hrel
        have HYL : Aside0 (Y.length = n) := ⟨(Kd.R_reads' HM.out.RS).1.symm⟩
        by_cases hlt : k < n
        ·
         obtain ⟨gi, gs, gt, rfl, rfl, rfl⟩ := HM.out.forms (by omega)
         obtain ⟨cy, _⟩ := Kd.R_celln (0 : Int) HM.out.RS (k : Int) (by omega) (by omega)
         simp only [Int.toNat_natCast] at cy
         obtain ⟨y, hy⟩ : ∃ y, rd Y (k : Int) = y := ⟨_, rfl⟩
         rw [show rdOf (0 : Int) Y (k : Int) = y from hy] at cy
         have HS : Aside0 ((Y.take (k + 1)).map (fun x => mx 0 x) = (Y.take k).map (fun x => mx 0 x) ++ [mx 0 y]) := ⟨by rw [← hy]; exact take_ints Y k (by have := HYL.out; omega)⟩
         clear hy
         obtain ⟨q, hq⟩ : ∃ q, mx 0 y = q := ⟨_, rfl⟩
         rw [hq] at HS
         have hq_ : (if 0 < y then y else 0) = q := hq
         clear hq
         obtain ⟨l, hl_⟩ : ∃ l, (Y.take k).map (fun x => mx 0 x) = l := ⟨_, rfl⟩
         have HLN : Aside0 (l.length ≤ 50) := ⟨by rw [← hl_, List.length_map, List.length_take]; omega⟩
         rw [hl_] at KV HS
         clear hl_
         obtain ⟨Av, cv, rfl⟩ := Kd.R_slice KV.out
         go_wp2_with ((with_reducible refine gate_builtin (b := .append) (xs := #[.tmp 290, .tmp 293]) rfl ?_); at_builtin; refine Kd.R_append (Kd.int .i64) (w0 := w) w.heap.size rfl (.tmp 290) (.tmp 293) 51 3 (.int .i64 0) 8 rfl Try.underlying51 info3 rfl (by decide) (by omega) _ l q [.int .i64 q] (fun q => gL < q) (fun _ => False) rfl rfl ?aP (fun _ hk => hk.elim) ?aF ?aO ?aB ?aS ?aL ?_; (case aP => exact rfl); (case aB => exact HM.out.HB); (case aF => exact (fun k hk => by have := blk_lt HM.out.KL; show gL < k; omega)); (case aO => exact KV.out); (case aS => exact HM.out.HB.size); (case aL => have := HLN.out; omega); intro v9 w9 ho hb hg hat; have KV9 := Aside0.mk ho; have HM9 := Aside0.mk (HM.out.grown hg hb (fun k hk => KV.out.1 k hk) (Kd.R_ne KV.out HM.out.KI (by decide)) (Kd.R_ne KV.out HM.out.KS (by decide)) (Kd.R_ne KV.out HM.out.KT (by decide))); clear ho hb hg hat)
         rw [← HS.out] at KV9
         go_roundw
         case rel => exact ⟨k + 1, by omega, by go_num, KV9, HM9⟩
         case measure => simp [intOf]; omega
        obtain rfl : n = k := by omega
        go_wp2
        go_ret
        refine ⟨_, rfl, ?_, HM.out.HB⟩
        have h := KV.out
        rw [List.take_of_length_le (by have := HYL.out; omega)] at h
        exact Kd.R_mono h (fun _ _ => trivial)
      have H := HLOP.out
      rw [hop] at H
      simp only [if_true] at H
      have HLOP2 := Aside0.mk H
      clear H HLOP
      have HNWB : Aside0 (freeN L X Y Z n = nw) := HNW
      obtain ⟨sm, hsm⟩ : ∃ q, sumR gr X Z n = q := ⟨_, rfl⟩
      rw [hsm]
      have HSM := Aside0.mk hsm
      clear hsm
      obtain ⟨p, hp⟩ : ∃ q, part bg sm 1000 = q := ⟨_, rfl⟩
      have HP := Aside0.mk hp
      clear hp
      obtain ⟨v1, hv1⟩ : ∃ q, nowR gr nw bg sm = q := ⟨_, rfl⟩
      have HV1 := Aside0.mk hv1
      clear hv1
      obtain ⟨ap, hap⟩ : ∃ q, mx p (wrap64 (-p)) = q := ⟨_, rfl⟩
      have hap_ : (if p < wrap64 (-p) then wrap64 (-p) else p) = ap := hap
      obtain ⟨an, han⟩ : ∃ q, mx nw (wrap64 (-nw)) = q := ⟨_, rfl⟩
      have han_ : (if nw < wrap64 (-nw) then wrap64 (-nw) else nw) = an := han
      obtain ⟨cnd, hcnd⟩ : ∃ q, decide (sm < 1000 ∧ ap < an) = q := ⟨_, rfl⟩
      have HCND : Aside0 (cnd = (decide (sm < 1000) && decide (ap < an))) := ⟨by rw [← hcnd]; exact Bool.decide_and _ _⟩
      have HNR : Aside0 (v1 = if cnd then p else nw) := ⟨by rw [← HV1.out, ← hcnd]; unfold nowR; rw [HP.out, hap, han]; simp only [decide_eq_true_eq]⟩
      clear hap han hcnd
      go_upto_region 37 with (go_at_call 48; (with_reducible refine (rpart_calls bg sm 1000 _).mono ?_); rw [HP.out]; rintro e w12 ⟨rfl, hb⟩; have HM12 := Aside0.mk (HM.out.below hb); have KG12 := Aside0.mk (blk_below KG.out hb); have KW12 := Aside0.mk (Kd.R_below KW.out hb); clear hb)
      go_cut [186] (fun s_ wx => s_ = .bool cnd ∧ Aside0 (RM w wx gL g6 g7 g8 A1 A3 A5 c1 c3 c5 n L X Y Z) ∧ Aside0 (wx.heap[gG]? = some (.cells #[.bool gr] 4 (0, 0))) ∧ Aside0 (Kd.R (Kd.int .i64) 3 wx w10.heap.size (fun _ => True) (.slice Aw n cw) (wR gr X Z n n)))
      case first => as_aux_lemma =>
       by_cases h1 : sm < 1000
       ·
        have e1 : decide (sm < 1000) = true := decide_eq_true h1
        by_cases h2 : ap < an
        ·
         have e2 : decide (ap < an) = true := decide_eq_true h2
         clear h1 h2
         have HCV : Aside0 (cnd = true) := ⟨by rw [HCND.out, e1, e2]; rfl⟩
         go_wp2
         go_meet
         case rel => exact ⟨by rw [HCV.out], HM12, KG12, KW12⟩
        have e2 : decide (ap < an) = false := decide_eq_false h2
        clear h1 h2
        have HCV : Aside0 (cnd = false) := ⟨by rw [HCND.out, e1, e2]; rfl⟩
        go_wp2
        go_meet
        case rel => exact ⟨by rw [HCV.out], HM12, KG12, KW12⟩
       have e1 : decide (sm < 1000) = false := decide_eq_false h1
       clear h1
       have HCV : Aside0 (cnd = false) := ⟨by rw [HCND.out, e1]; rfl⟩
       go_wp2
       go_meet
       case rel => exact ⟨by rw [HCV.out], HM12, KG12, KW12⟩
      case rest => as_aux_lemma =>
       clear HM KG KW HM12 KG12 KW12 hap_ han_
       obtain ⟨rfl, HM, KG, KW⟩ := hcut
       go_upto_if 186 with fail
       go_cut [21] (fun s_ wx => s_ = .int .i64 v1 ∧ Aside0 (RM w wx gL g6 g7 g8 A1 A3 A5 c1 c3 c5 n L X Y Z) ∧ Aside0 (wx.heap[gG]? = some (.cells #[.bool gr] 4 (0, 0))) ∧ Aside0 (Kd.R (Kd.int .i64) 3 wx w10.heap.size (fun _ => True) (.slice Aw n cw) (wR gr X Z n n)))
       case first => as_aux_lemma =>
        cases cnd
        ·
         go_wp2
         go_meet
         case rel => exact ⟨by rw [HNR.out]; rfl, HM, KG, KW⟩
        go_wp2
        go_meet
        case rel => exact ⟨by rw [HNR.out]; rfl, HM, KG, KW⟩
       case rest => as_aux_lemma =>
        clear HM KG KW
        obtain ⟨rfl, HM, KG, KW⟩ := hcut
        have cG := (blk_cell KG.out 0).trans (show (#[Value.bool gr] : Array Value)[0]? = some (.bool gr) from rfl)
        go_upto_if 189 with fail
        obtain ⟨v2, hv2⟩ : ∃ q, nowS gr v1 = q := ⟨_, rfl⟩
        have HV2 := Aside0.mk hv2
        clear hv2 cG
        go_cut [21, 28] (fun s_ t_ wx => s_ = .int .i64 v2 ∧ t_ = .int .i64 (signR gr) ∧ Aside0 (RM w wx gL g6 g7 g8 A1 A3 A5 c1 c3 c5 n L X Y Z) ∧ Aside0 (wx.heap[gG]? = some (.cells #[.bool gr] 4 (0, 0))) ∧ Aside0 (Kd.R (Kd.int .i64) 3 wx w10.heap.size (fun _ => True) (.slice Aw n cw) (wR gr X Z n n)))
        case first => as_aux_lemma =>
         cases gr
         ·
          go_wp2
          go_meet
          case rel => exact ⟨by rw [← HV2.out]; rfl, rfl, HM, KG, KW⟩
         go_wp2
         go_meet
         case rel => exact ⟨by rw [← HV2.out]; rfl, rfl, HM, KG, KW⟩
        case rest =>
         clear HM KG KW
         obtain ⟨rfl, rfl, HM, KG, KW⟩ := hcut
         obtain ⟨v3, hv3⟩ : ∃ q, mx 0 v2 = q := ⟨_, rfl⟩
         have hv3_ : (if 0 < v2 then v2 else 0) = v3 := hv3
         have HV3 := Aside0.mk hv3
         clear hv3
         obtain ⟨ps, hps⟩ : ∃ q, share v3 (wR gr X Z n n) = q := ⟨_, rfl⟩
         have HPS := Aside0.mk hps
         clear hps
         have HPL : Aside0 (ps.length = n) := ⟨by rw [← HPS.out]; unfold share; split <;> simp [shared_length, wR_length]⟩
         have HSH : Aside0 (∀ W : World, Kd.R (Kd.int .i64) 3 W w10.heap.size (fun _ => True) (.slice Aw n cw) (wR gr X Z n n) → Calls Try.prog 77 #[.int .i64 v3, .slice Aw n cw] W fun e w' => ∃ v : Value, e = .returned v ∧ Kd.R (Kd.int .i64) 3 w' W.heap.size (fun _ => True) v ps ∧ Below W.heap.size W w') := ⟨fun W h => by obtain ⟨h1, h2, h3⟩ := Kd.R_reads' h; have h4 := rshare_calls v3 Aw cw (wR gr X Z n n) W h3 (by omega) (by rw [wR_length]; have := HL.out; omega); rw [wR_length, HPS.out] at h4; exact h4⟩
         go_wp2_with (first | (go_at_call 77; (with_reducible refine (HSH.out _ KW.out).mono ?_); rintro e w13 ⟨v13, rfl, hv, hb⟩; obtain ⟨Ap, cp_, rfl⟩ := Kd.R_slice hv; rw [HPL.out] at hv ⊢; have KP13 := Aside0.mk hv; have HM13 := Aside0.mk (HM.out.below hb); have KG13 := Aside0.mk (blk_below KG.out hb); have GP : Aside0 (gG < wc.heap.size) := ⟨blk_lt KG.out⟩; clear hv hb) | ((with_reducible refine gate_dst (N := 197) rfl ?_); refine Kd.R_make (Kd.int .i64) _ 3 rfl (N := 197) rfl 51 _ _ rfl (n : Int) rfl rfl Try.underlying51 (.int .i64 0) 8 info3 rfl (by decide) (by omega) 0 (ok := fun _ => True) (okp := fun _ => True) rfl (fun _ hk => hk) trivial (by omega) (by omega) (Below.refl _ _) (Nat.le_refl _) ?_; intro vb w14 ho hb hg_ hat; simp only [Int.toNat_natCast] at ho; obtain ⟨Ab, cb, rfl⟩ := Kd.R_slice ho; rw [List.length_replicate] at ho; have KB14 := Aside0.mk ho; have HM14 := Aside0.mk (HM13.out.below hb); have KG14 := Aside0.mk (blk_below KG13.out hb); have KP14 := Aside0.mk (Kd.R_below KP13.out hb); have B14 := Aside0.mk hb; have GB : Aside0 (gG < w13.heap.size) := ⟨blk_lt KG13.out⟩; have cI14 := HM14.out.cI; clear ho hb hg_ hat))
         have KP : Aside0 (Kd.R (Kd.int .i64) 3 w14 wc.heap.size (fun q => wc.heap.size ≤ q ∧ q < w13.heap.size) (.slice Ap n cp_) ps) := ⟨⟨fun q hq => ⟨Kd.R_base KP13.out q hq, Kd.R_lt KP13.out q hq⟩, (Kd.R_below KP13.out B14.out).2⟩⟩
         have KB : Aside0 (Kd.R (Kd.int .i64) 3 w14 w13.heap.size (fun q => w13.heap.size ≤ q) (.slice Ab n cb) (List.replicate n 0)) := ⟨⟨fun q hq => Kd.R_base KB14.out q hq, KB14.out.2⟩⟩
         clear KP14 KB14 KP13
         go_loopw [31, 200] (fun a_ i wr => ∃ k : Nat, k ≤ n ∧ a_ = .int .i64 (allR gr ps X Z k) ∧ i = .int .i64 k ∧ Aside0 (RM w wr gL g6 g7 g8 A1 A3 A5 c1 c3 c5 n L X (isR gr ps X Z Y k) Z) ∧ Aside0 (wr.heap[gG]? = some (.cells #[.bool gr] 4 (0, 0))) ∧ Aside0 (Kd.R (Kd.int .i64) 3 wr wc.heap.size (fun q => wc.heap.size ≤ q ∧ q < w13.heap.size) (.slice Ap n cp_) ps) ∧ Aside0 (Kd.R (Kd.int .i64) 3 wr w13.heap.size (fun q => w13.heap.size ≤ q) (.slice Ab n cb) (byR gr ps X Z n k))) (fun _ i _ => n - (intOf i).toNat)
         case atStart => exact ⟨0, Nat.zero_le _, rfl, rfl, HM14, KG14, KP, KB⟩
         case round => as_aux_lemma =>
          clear HM14 KG14 KP KB
          obtain ⟨k, hk, rfl, rfl, HM, KG, KP, KB⟩ := hrel
          by_cases hlt : k < n
          ·
           obtain ⟨gi, gs, gt, rfl, rfl, rfl⟩ := HM.out.forms (by omega)
           obtain ⟨gp, cp2, hAp, _, _⟩ := Kd.R_form KP.out (by have := HPL.out; omega)
           injection hAp with hAp hq_ hcp
           subst hAp; subst hcp; clear hq_
           obtain ⟨gb, cb2, hAb, _, _⟩ := Kd.R_form KB.out (by rw [byR_length]; omega)
           injection hAb with hAb hq_ hcb
           subst hAb; subst hcb; clear hq_
           have NP : Aside0 (gL < gp) := ⟨by have h1 := KP.out.1 gp rfl; have h2 := GP.out; have h3 := GG.out; omega⟩
           have NB : Aside0 (gL < gb) := ⟨by have h1 : w13.heap.size ≤ gb := KB.out.1 gb rfl; have h2 := GB.out; have h3 := GG.out; omega⟩
           have NS : Aside0 (gs < gL) := ⟨HM.out.RS.1 gs rfl⟩
           have NPB : Aside0 (gp < gb) := ⟨by have h1 := (KP.out.1 gp rfl).2; have h2 : w13.heap.size ≤ gb := KB.out.1 gb rfl; omega⟩
           have NGB : Aside0 (gG < gb) := ⟨by have h1 : w13.heap.size ≤ gb := KB.out.1 gb rfl; have h2 := GB.out; omega⟩
           obtain ⟨x, hx⟩ : ∃ x, rd_T91 X (k : Int) = x := ⟨_, rfl⟩
           obtain ⟨z, hz⟩ : ∃ z, rdOf false Z (k : Int) = z := ⟨_, rfl⟩
           obtain ⟨pk, hpk⟩ : ∃ q, rd ps (k : Int) = q := ⟨_, rfl⟩
           obtain ⟨a0, a1, a2, a3, a4, a5⟩ := x
           have HW_ : Aside0 (wouldR gr ps X k = wrap64 (a0 + wrap64 (signR gr * pk))) := ⟨by unfold wouldR; rw [hx, hpk]⟩
           obtain ⟨wd, hwd⟩ : ∃ q, wrap64 (a0 + wrap64 (signR gr * pk)) = q := ⟨_, rfl⟩
           have HWD := Aside0.mk hwd
           have HBE : Aside0 (beR gr ps X k = betw wd a1 a2) := ⟨by unfold beR; rw [HW_.out, hwd, hx]⟩
           obtain ⟨be, hbe⟩ : ∃ q, betw wd a1 a2 = q := ⟨_, rfl⟩
           have HBT := Aside0.mk hbe
           have HBV : Aside0 (byV gr ps X k = wrap64 (be - cut wd)) := ⟨by unfold byV; rw [HBE.out, HW_.out, hwd, hbe]⟩
           obtain ⟨bv, hbv⟩ : ∃ q, wrap64 (be - cut wd) = q := ⟨_, rfl⟩
           have HBW := Aside0.mk hbv
           have HS1 : Aside0 (isR gr ps X Z Y (k + 1) = if z then isR gr ps X Z Y k else (isR gr ps X Z Y k).set k be) := ⟨by have h : isR gr ps X Z Y (k + 1) = if rdOf false Z (k : Int) then isR gr ps X Z Y k else (isR gr ps X Z Y k).set k (beR gr ps X k) := rfl; rw [hz, HBE.out, hbe] at h; exact h⟩
           have HS2 : Aside0 (byR gr ps X Z n (k + 1) = if z then byR gr ps X Z n k else (byR gr ps X Z n k).set k bv) := ⟨by have h : byR gr ps X Z n (k + 1) = if rdOf false Z (k : Int) then byR gr ps X Z n k else (byR gr ps X Z n k).set k (byV gr ps X k) := rfl; rw [hz, HBV.out, hbv] at h; exact h⟩
           have HS3 : Aside0 (allR gr ps X Z (k + 1) = if z then allR gr ps X Z k else wrap64 (allR gr ps X Z k + bv)) := ⟨by have h : allR gr ps X Z (k + 1) = if rdOf false Z (k : Int) then allR gr ps X Z k else wrap64 (allR gr ps X Z k + byV gr ps X k) := rfl; rw [hz, HBV.out, hbv] at h; exact h⟩
           have HYL : Aside0 ((isR gr ps X Z Y k).length = n) := ⟨(Kd.R_reads' HM.out.RS).1.symm⟩
           have HBL : Aside0 ((byR gr ps X Z n k).length = n) := ⟨byR_length _ _ _ _ _ _⟩
           obtain ⟨al, hal⟩ : ∃ q, allR gr ps X Z k = q := ⟨_, rfl⟩
           rw [hal] at HS3 ⊢
           clear hal hbv hbe hwd HW_ HBE HBV
           obtain ⟨ly, hly⟩ : ∃ q, isR gr ps X Z Y k = q := ⟨_, rfl⟩
           rw [hly] at HS1 HM HYL
           clear hly
           obtain ⟨lb, hlb⟩ : ∃ q, byR gr ps X Z n k = q := ⟨_, rfl⟩
           rw [hlb] at HS2 KB HBL
           clear hlb
           have hzc := (Kd.R_celln false HM.out.RT (k : Int) (by omega) (by omega)).1
           simp only [Int.toNat_natCast] at hzc
           rw [show rdOf false Z (k : Int) = z from hz] at hzc
           have HPC : Aside0 (rdOf (0 : Int) ps (k : Int) = pk) := ⟨hpk⟩
           have hx0 := (row_get91 HM.out.RI (k : Int) (by omega) (by omega) 0 _ (by rw [hx]; rfl)).1
           have hx1 := (row_get91 HM.out.RI (k : Int) (by omega) (by omega) 1 _ (by rw [hx]; rfl)).1
           have hx2 := (row_get91 HM.out.RI (k : Int) (by omega) (by omega) 2 _ (by rw [hx]; rfl)).1
           have hx3 := (row_get91 HM.out.RI (k : Int) (by omega) (by omega) 3 _ (by rw [hx]; rfl)).1
           have hx4 := (row_get91 HM.out.RI (k : Int) (by omega) (by omega) 4 _ (by rw [hx]; rfl)).1
           have hx5 := (row_get91 HM.out.RI (k : Int) (by omega) (by omega) 5 _ (by rw [hx]; rfl)).1
           simp only [Int.toNat_natCast, Nat.add_zero] at hx0 hx1 hx2 hx3 hx4 hx5
           clear hx hz hpk
           cases z
           ·
            go_upto_region 48 with (first | ((with_reducible refine gate_dst (N := 33) rfl ?_); refine box_event rfl (N := 33) rfl (cs := #[.int .i64 0, .int .i64 0, .int .i64 0, .int .i64 0, .int .i64 0, .int .i64 0]) (t := 91) (by first | (go_simp; done) | (go_simp; rfl)) ?_; intro gx hgx w3 hbx hb; have KX0 := Aside0.mk hbx; have HGX : Aside0 (wr.heap.size ≤ gx) := ⟨by omega⟩; have BX := Aside0.mk hb; clear hgx hbx hb) | ((with_reducible refine gate_store (t := 91) (p := 33) rfl ?_); refine store_event (t := 91) (p := 33) (w1 := w3.setCells gx 0 (#[.int .i64 a0, .int .i64 a1, .int .i64 a2, .int .i64 a3, .int .i64 a4, .int .i64 a5] : Array Value).toList) rfl rfl rfl (store_run 91 (.tmp 33) (.tmp 204) gx #[.int .i64 a0, .int .i64 a1, .int .i64 a2, .int .i64 a3, .int .i64 a4, .int .i64 a5] rfl rfl rfl (there_row KX0.out _ (Nat.le_refl 6)) (by kernel_rfl) (all_oneCell_toArray (cs := [.int .i64 a0, .int .i64 a1, .int .i64 a2, .int .i64 a3, .int .i64 a4, .int .i64 a5]) (by intro v hv; simp only [List.mem_cons, List.not_mem_nil, or_false] at hv; rcases hv with rfl | rfl | rfl | rfl | rfl | rfl <;> rfl))) ?_; intro w4 hw3; have KX : Aside0 (w4.heap[gx]? = some (.cells #[.int .i64 a0, .int .i64 a1, .int .i64 a2, .int .i64 a3, .int .i64 a4, .int .i64 a5] 91 (0, 0))) := ⟨by rw [hw3]; exact sets_row KX0.out rfl⟩; have BX3 : Aside0 (Below wr.heap.size wr w4) := ⟨by rw [hw3]; exact sets_below HGX.out _ 0 _ BX.out⟩; clear hw3; have cx0 : w4.cell? ⟨gx, 0, none⟩ = some (.int .i64 a0) := (blk_cell KX.out 0).trans rfl; have cx1 : w4.cell? ⟨gx, 1, none⟩ = some (.int .i64 a1) := (blk_cell KX.out 1).trans rfl; have cx2 : w4.cell? ⟨gx, 2, none⟩ = some (.int .i64 a2) := (blk_cell KX.out 2).trans rfl; have cx3 : w4.cell? ⟨gx, 3, none⟩ = some (.int .i64 a3) := (blk_cell KX.out 3).trans rfl; have cx4 : w4.cell? ⟨gx, 4, none⟩ = some (.int .i64 a4) := (blk_cell KX.out 4).trans rfl; have cx5 : w4.cell? ⟨gx, 5, none⟩ = some (.int .i64 a5) := (blk_cell KX.out 5).trans rfl; have HM4 := Aside0.mk (HM.out.below BX3.out); have KG4 := Aside0.mk (blk_below KG.out BX3.out); have KP4 := Aside0.mk (Kd.R_below KP.out BX3.out); have KB4 := Aside0.mk (Kd.R_below KB.out BX3.out); have cT4 := HM4.out.cT; have hz4 : w4.cell? ⟨gt, k, none⟩ = some (.bool false) := cell_below hzc BX3.out))
            clear cx0 cx1 cx2 cx3 cx4 cx5 hx0 hx1 hx2 hx3 hx4 hx5 cT4 hz4 hzc
            have HM5 := Aside0.mk HM4.out.drew
            have KG5 : Aside0 (w4.drew.heap[gG]? = _) := ⟨KG4.out⟩
            have KX5 : Aside0 (w4.drew.heap[gx]? = _) := ⟨KX.out⟩
            have KP5 := Aside0.mk (Kd.R_below KP4.out (below_drew1b (Below.refl _ _)))
            have KB5 := Aside0.mk (Kd.R_below KB4.out (below_drew1b (Below.refl _ _)))
            have cp5 := (Kd.R_celln (0 : Int) KP5.out (k : Int) (by omega) (by omega)).1
            simp only [Int.toNat_natCast, HPC.out] at cp5
            refine start_ (n := 10) (S := fun w' => w'.cell? ⟨gx, 0, none⟩ = some (.int .i64 a0) ∧ w'.cell? ⟨gp, k, none⟩ = some (.int .i64 pk)) (ds := []) B30_ (by kernel_rfl) rfl rfl ⟨(blk_cell KX5.out 0).trans rfl, cp5⟩ (fun hHeld => ?_)
            refine pure_ (i := 0) (N := some 210) (v := ?_) (a' := ?_) B41_ rfl rfl (by kernel_rfl) (fun _ _ _ h => h) (Or.inl ⟨by rfl, ?_⟩) ?_ ?_
            rotate_left; · intro w'; go_simp; with_reducible rfl
            rotate_left; · simp only [Act.put, q1_, q2_, q3_, i64_w, i32_w]; rfl
            refine pure_ (i := 2) (N := some 212) (v := ?_) (a' := ?_) B42_ rfl rfl (by kernel_rfl) (fun _ _ _ h => h) (Or.inl ⟨by rfl, ?_⟩) ?_ ?_
            rotate_left; · intro w'; go_simp; with_reducible rfl
            rotate_left; · simp only [Act.put, q1_, q2_, q3_, i64_w, i32_w]; rfl
            refine pure_ (i := 3) (N := some 213) (v := ?_) (a' := ?_) B43_ rfl rfl (by kernel_rfl) (fun _ _ _ h => h) (Or.inl ⟨by rfl, ?_⟩) ?_ ?_
            rotate_left; · intro w'; go_simp; with_reducible rfl
            rotate_left; · simp only [Act.put, q1_, q2_, q3_, i64_w, i32_w]; rfl
            refine pure_ (i := 4) (N := some 214) (v := ?_) (a' := ?_) B44_ rfl rfl (by kernel_rfl) (fun _ _ _ h => h) (Or.inl ⟨by rfl, ?_⟩) ?_ ?_
            rotate_left; · intro w'; go_simp; with_reducible rfl
            rotate_left; · simp only [Act.put, q1_, q2_, q3_, i64_w, i32_w]; rfl
            refine pure_ (i := 5) (N := some 215) (v := ?_) (a' := ?_) B45_ rfl rfl (by kernel_rfl) (fun _ _ _ h => h) (Or.inl ⟨by rfl, ?_⟩) ?_ ?_
            rotate_left; · intro w'; go_simp; with_reducible rfl
            rotate_left; · simp only [Act.put, q1_, q2_, q3_, i64_w, i32_w]; rfl
            refine take_ (i := 1) (N := some 211) (v := ?_) (a' := ?_) B36_ rfl rfl (by kernel_rfl) (fun _ _ _ h => h) (Or.inl ⟨by rfl, ?_⟩) hHeld ?_ ?_
            rotate_left; · rintro w' ⟨s0, s1⟩; go_simp; with_reducible rfl
            rotate_left; · simp only [Act.put, q1_, q2_, q3_, i64_w, i32_w]; rfl
            refine take_ (i := 6) (N := some 216) (v := ?_) (a' := ?_) B37_ rfl rfl (by kernel_rfl) (fun _ _ _ h => h) (Or.inl ⟨by rfl, ?_⟩) hHeld ?_ ?_
            rotate_left; · rintro w' ⟨s0, s1⟩; go_simp; with_reducible rfl
            rotate_left; · simp only [Act.put, q1_, q2_, q3_, i64_w, i32_w]; rfl
            refine pure_ (i := 7) (N := some 217) (v := ?_) (a' := ?_) B38_ rfl rfl (by kernel_rfl) (fun _ _ _ h => h) (Or.inl ⟨by rfl, ?_⟩) ?_ ?_
            rotate_left; · intro w'; go_simp; with_reducible rfl
            rotate_left; · simp only [Act.put, q1_, q2_, q3_, i64_w, i32_w]; rfl
            refine pure_ (i := 8) (N := some 218) (v := ?_) (a' := ?_) B39_ rfl rfl (by kernel_rfl) (fun _ _ _ h => h) (Or.inl ⟨by rfl, ?_⟩) ?_ ?_
            rotate_left; · intro w'; go_simp; with_reducible rfl
            rotate_left; · simp only [Act.put, q1_, q2_, q3_, i64_w, i32_w]; rfl
            refine pure_ (i := 9) (N := some 34) (v := ?_) (a' := ?_) B40_ rfl rfl (by kernel_rfl) (fun _ _ _ h => h) (Or.inl ⟨by rfl, ?_⟩) ?_ ?_
            rotate_left; · intro w'; go_simp; with_reducible rfl
            rotate_left; · simp only [Act.put, q1_, q2_, q3_, i64_w, i32_w]; rfl
            refine done_ (by kernel_rfl) ?_
            rw [HWD.out]
            clear cp5
            generalize w4.drew = w5 at HM5 KG5 KX5 KP5 KB5 ⊢
            go_wp2_with fail
            have HM5d := Aside0.mk HM5.out.drew
            have KG5d : Aside0 (w5.drew.heap[gG]? = _) := ⟨KG5.out⟩
            have KX5d : Aside0 (w5.drew.heap[gx]? = _) := ⟨KX5.out⟩
            have KP5d := Aside0.mk (Kd.R_below KP5.out (below_drew1b (Below.refl _ _)))
            have KB5d := Aside0.mk (Kd.R_below KB5.out (below_drew1b (Below.refl _ _)))
            refine start_ (n := 10) (S := fun w' => w'.cell? ⟨g7, 0, none⟩ = some (.slice (some ⟨gs, 0, none⟩) n c3) ∧ w'.cell? ⟨gx, 1, none⟩ = some (.int .i64 a1) ∧ w'.cell? ⟨gx, 2, none⟩ = some (.int .i64 a2)) (ds := [9]) B30_ (by kernel_rfl) rfl rfl ⟨HM5d.out.cS, (blk_cell KX5d.out 1).trans rfl, (blk_cell KX5d.out 2).trans rfl⟩ (fun hHeld => ?_)
            refine pure_ (i := 1) (N := some 220) (v := ?_) (a' := ?_) B31_ rfl rfl (by kernel_rfl) (fun _ _ _ h => h) (Or.inl ⟨by rfl, ?_⟩) ?_ ?_
            rotate_left; · intro w'; go_simp; with_reducible rfl
            rotate_left; · simp only [Act.put, q1_, q2_, q3_, i64_w, i32_w]; rfl
            refine pure_ (i := 2) (N := some 221) (v := ?_) (a' := ?_) B46_ rfl rfl (by kernel_rfl) (fun _ _ _ h => h) (Or.inl ⟨by rfl, ?_⟩) ?_ ?_
            rotate_left; · intro w'; go_simp; with_reducible rfl
            rotate_left; · simp only [Act.put, q1_, q2_, q3_, i64_w, i32_w]; rfl
            refine pure_ (i := 3) (N := some 222) (v := ?_) (a' := ?_) B47_ rfl rfl (by kernel_rfl) (fun _ _ _ h => h) (Or.inl ⟨by rfl, ?_⟩) ?_ ?_
            rotate_left; · intro w'; go_simp; with_reducible rfl
            rotate_left; · simp only [Act.put, q1_, q2_, q3_, i64_w, i32_w]; rfl
            refine pure_ (i := 5) (N := some 224) (v := ?_) (a' := ?_) B48_ rfl rfl (by kernel_rfl) (fun _ _ _ h => h) (Or.inl ⟨by rfl, ?_⟩) ?_ ?_
            rotate_left; · intro w'; go_simp; with_reducible rfl
            rotate_left; · simp only [Act.put, q1_, q2_, q3_, i64_w, i32_w]; rfl
            refine take_ (i := 0) (N := some 219) (v := ?_) (a' := ?_) B49_ rfl rfl (by kernel_rfl) (fun _ _ _ h => h) (Or.inl ⟨by rfl, ?_⟩) hHeld ?_ ?_
            rotate_left; · rintro w' ⟨s0, s1, s2⟩; go_simp; with_reducible rfl
            rotate_left; · simp only [Act.put, q1_, q2_, q3_, i64_w, i32_w]; rfl
            refine take_ (i := 4) (N := some 223) (v := ?_) (a' := ?_) B36_ rfl rfl (by kernel_rfl) (fun _ _ _ h => h) (Or.inl ⟨by rfl, ?_⟩) hHeld ?_ ?_
            rotate_left; · rintro w' ⟨s0, s1, s2⟩; go_simp; with_reducible rfl
            rotate_left; · simp only [Act.put, q1_, q2_, q3_, i64_w, i32_w]; rfl
            refine take_ (i := 6) (N := some 225) (v := ?_) (a' := ?_) B37_ rfl rfl (by kernel_rfl) (fun _ _ _ h => h) (Or.inl ⟨by rfl, ?_⟩) hHeld ?_ ?_
            rotate_left; · rintro w' ⟨s0, s1, s2⟩; go_simp; with_reducible rfl
            rotate_left; · simp only [Act.put, q1_, q2_, q3_, i64_w, i32_w]; rfl
            refine one_ (i := 7) (N := some 226) B38_ rfl rfl (by kernel_rfl) (by decide) (fun K hK => ?_)
            refine goes_ Try.func78 (by kernel_rfl) rfl #[.int .i64 wd, .int .i64 a1, .int .i64 a2] (by rfl) rfl rfl (by simp only [List.map_toArray, List.map_cons, List.map_nil]; rfl) ?_
            with_reducible refine (rbetw_calls wd a1 a2 _).mono ?_
            rintro e w6 ⟨rfl, hb⟩
            refine ⟨_, rfl, ?_⟩
            rw [HBT.out]
            have HM6 := Aside0.mk (HM5d.out.below hb)
            have KG6 := Aside0.mk (blk_below KG5d.out hb)
            have KP6 := Aside0.mk (Kd.R_below KP5d.out hb)
            have KB6 := Aside0.mk (Kd.R_below KB5d.out hb)
            have KX6 := Aside0.mk (blk_below KX5d.out hb)
            clear hb
            obtain ⟨cs_, fs_⟩ := Kd.R_celln (0 : Int) HM6.out.RS (k : Int) (by omega) (by omega)
            simp only [Int.toNat_natCast] at cs_ fs_
            refine hK.out _ _ ⟨HM6.out.cS, (blk_cell KX6.out 1).trans rfl, (blk_cell KX6.out 2).trans rfl⟩ (fun hHeld => ?_)
            clear hK K
            refine norm_ (a' := ?_) ?_ ?_
            rotate_left
            ·
             show Act.put _ (some 226) _ = _
             simp only [Act.put, q1_, q2_, q3_, i64_w, i32_w]
             rfl
            refine pure_ (i := 8) (N := some 227) (v := ?_) (a' := ?_) B39_ rfl rfl (by kernel_rfl) (fun _ _ _ h => h) (Or.inl ⟨by rfl, ?_⟩) ?_ ?_
            rotate_left; · intro w'; go_simp; with_reducible rfl
            rotate_left; · simp only [Act.put, q1_, q2_, q3_, i64_w, i32_w]; rfl
            refine last_ (i := 9) (N := none) B40_ rfl rfl (by kernel_rfl) (by decide) (fun K hK => ?_)
            refine skip_ (w1 := ?_) (by rfl) rfl ?_ ?_
            rotate_left
            ·
             go_simp
             rfl
            refine hK.out _ _ ?_
            clear hK K
            refine done_ (by kernel_rfl) ?_
            have HM7 := Aside0.mk (HM6.out.isPut k be)
            have KG7 := Aside0.mk (blk_far (p := ⟨gs, k, none⟩) KG6.out (by have h1 := NS.out; have h2 := GG.out; show gG ≠ gs; omega) (.int .i64 be))
            have KP7 := Aside0.mk (Kd.R_far (p := ⟨gs, k, none⟩) KP6.out (fun q hq => by have h1 := NS.out; have h2 := GG.out; have h3 := GP.out; have h4 := hq.1; show q ≠ gs; omega) (.int .i64 be))
            have KB7 := Aside0.mk (Kd.R_far (p := ⟨gs, k, none⟩) KB6.out (fun q hq => by have h1 := NS.out; have h2 := GG.out; have h3 := GB.out; have h4 : w13.heap.size ≤ q := hq; show q ≠ gs; omega) (.int .i64 be))
            clear cs_ fs_ HM6 KG6 KP6 KB6 HM5d KG5d KP5d KB5d HM5 KG5 KP5 KB5
            generalize w6.setCell ⟨gs, k, none⟩ (.int .i64 be) = w7 at HM7 KG7 KP7 KB7 ⊢
            have HRY : Aside0 (rdOf (0 : Int) (ly.set k be) (k : Int) = be) := ⟨(rdI_set ly k k be (by have := HYL.out; omega)).trans (if_pos rfl)⟩
            go_wp2_with fail
            have HM7d := Aside0.mk HM7.out.drew
            have KG7d : Aside0 (w7.drew.heap[gG]? = _) := ⟨KG7.out⟩
            have KP7d := Aside0.mk (Kd.R_below KP7.out (below_drew1b (Below.refl _ _)))
            have KB7d := Aside0.mk (Kd.R_below KB7.out (below_drew1b (Below.refl _ _)))
            have cy7 := (Kd.R_celln (0 : Int) HM7d.out.RS (k : Int) (by omega) (by omega)).1
            rw [HRY.out] at cy7
            simp only [Int.toNat_natCast] at cy7
            refine start_ (n := 11) (S := fun w' => w'.cell? ⟨g7, 0, none⟩ = some (.slice (some ⟨gs, 0, none⟩) n c3) ∧ w'.cell? ⟨gs, k, none⟩ = some (.int .i64 be)) (ds := [10]) B50_ (by kernel_rfl) rfl rfl ⟨HM7d.out.cS, cy7⟩ (fun hHeld => ?_)
            refine pure_ (i := 0) (N := some 228) (v := ?_) (a' := ?_) B51_ rfl rfl (by kernel_rfl) (fun _ _ _ h => h) (Or.inl ⟨by rfl, ?_⟩) ?_ ?_
            rotate_left; · intro w'; go_simp; with_reducible rfl
            rotate_left; · simp only [Act.put, q1_, q2_, q3_, i64_w, i32_w]; rfl
            refine pure_ (i := 1) (N := some 229) (v := ?_) (a' := ?_) B52_ rfl rfl (by kernel_rfl) (fun _ _ _ h => h) (Or.inl ⟨by rfl, ?_⟩) ?_ ?_
            rotate_left; · intro w'; go_simp; with_reducible rfl
            rotate_left; · simp only [Act.put, q1_, q2_, q3_, i64_w, i32_w]; rfl
            refine pure_ (i := 3) (N := some 231) (v := ?_) (a' := ?_) B53_ rfl rfl (by kernel_rfl) (fun _ _ _ h => h) (Or.inl ⟨by rfl, ?_⟩) ?_ ?_
            rotate_left; · intro w'; go_simp; with_reducible rfl
            rotate_left; · simp only [Act.put, q1_, q2_, q3_, i64_w, i32_w]; rfl
            refine pure_ (i := 6) (N := some 234) (v := ?_) (a' := ?_) B54_ rfl rfl (by kernel_rfl) (fun _ _ _ h => h) (Or.inl ⟨by rfl, ?_⟩) ?_ ?_
            rotate_left; · intro w'; go_simp; with_reducible rfl
            rotate_left; · simp only [Act.put, q1_, q2_, q3_, i64_w, i32_w]; rfl
            refine take_ (i := 2) (N := some 230) (v := ?_) (a' := ?_) B55_ rfl rfl (by kernel_rfl) (fun _ _ _ h => h) (Or.inl ⟨by rfl, ?_⟩) hHeld ?_ ?_
            rotate_left; · rintro w' ⟨s0, s1⟩; go_simp; with_reducible rfl
            rotate_left; · simp only [Act.put, q1_, q2_, q3_, i64_w, i32_w]; rfl
            refine pure_ (i := 4) (N := some 232) (v := ?_) (a' := ?_) B56_ rfl rfl (by kernel_rfl) (fun _ _ _ h => h) (Or.inl ⟨by rfl, ?_⟩) ?_ ?_
            rotate_left; · intro w'; go_simp; with_reducible rfl
            rotate_left; · simp only [Act.put, q1_, q2_, q3_, i64_w, i32_w]; rfl
            refine take_ (i := 5) (N := some 233) (v := ?_) (a' := ?_) B57_ rfl rfl (by kernel_rfl) (fun _ _ _ h => h) (Or.inl ⟨by rfl, ?_⟩) hHeld ?_ ?_
            rotate_left; · rintro w' ⟨s0, s1⟩; go_simp; with_reducible rfl
            rotate_left; · simp only [Act.put, q1_, q2_, q3_, i64_w, i32_w]; rfl
            refine one_ (i := 7) (N := some 235) B58_ rfl rfl (by kernel_rfl) (by decide) (fun K hK => ?_)
            refine goes_ Try.func21 (by kernel_rfl) rfl #[.int .i64 wd] (by rfl) rfl rfl (by simp only [List.map_toArray, List.map_cons, List.map_nil]; rfl) ?_
            with_reducible refine (rcut_calls wd _).mono ?_
            rintro e w8 ⟨rfl, hb⟩
            refine ⟨_, rfl, ?_⟩
            have HM8 := Aside0.mk (HM7d.out.below hb)
            have KG8 := Aside0.mk (blk_below KG7d.out hb)
            have KP8 := Aside0.mk (Kd.R_below KP7d.out hb)
            have KB8 := Aside0.mk (Kd.R_below KB7d.out hb)
            have cy8 := cell_below cy7 hb
            clear hb
            obtain ⟨cb_, fb_⟩ := Kd.R_celln (0 : Int) KB8.out (k : Int) (by omega) (by omega)
            simp only [Int.toNat_natCast] at cb_ fb_
            refine hK.out _ _ ⟨HM8.out.cS, cy8⟩ (fun hHeld => ?_)
            clear hK K
            refine norm_ (a' := ?_) ?_ ?_
            rotate_left
            ·
             show Act.put _ (some 235) _ = _
             simp only [Act.put, q1_, q2_, q3_, i64_w, i32_w]
             rfl
            refine pure_ (i := 8) (N := some 236) (v := ?_) (a' := ?_) B59_ rfl rfl (by kernel_rfl) (fun _ _ _ h => h) (Or.inl ⟨by rfl, ?_⟩) ?_ ?_
            rotate_left; · intro w'; go_simp; with_reducible rfl
            rotate_left; · simp only [Act.put, q1_, q2_, q3_, i64_w, i32_w]; rfl
            refine pure_ (i := 9) (N := some 237) (v := ?_) (a' := ?_) B60_ rfl rfl (by kernel_rfl) (fun _ _ _ h => h) (Or.inl ⟨by rfl, ?_⟩) ?_ ?_
            rotate_left; · intro w'; go_simp; with_reducible rfl
            rotate_left; · simp only [Act.put, q1_, q2_, q3_, i64_w, i32_w]; rfl
            refine last_ (i := 10) (N := none) B61_ rfl rfl (by kernel_rfl) (by decide) (fun K hK => ?_)
            refine skip_ (w1 := ?_) (by rfl) rfl ?_ ?_
            rotate_left
            ·
             go_simp
             rfl
            refine hK.out _ _ ?_
            clear hK K
            refine done_ (by kernel_rfl) ?_
            rw [HBW.out]
            obtain ⟨cc8, hcc8⟩ := Kd.R_typed KB8.out gb rfl
            have HM9 := Aside0.mk (HM8.out.far (g := gb) NB.out hcc8 (by decide) (by decide) (by decide) k (.int .i64 bv))
            have KG9 := Aside0.mk (blk_far (p := ⟨gb, k, none⟩) KG8.out (by have h1 := NGB.out; show gG ≠ gb; omega) (.int .i64 bv))
            have KP9 := Aside0.mk (Kd.R_far (p := ⟨gb, k, none⟩) KP8.out (fun q hq => by have h1 : w13.heap.size ≤ gb := KB8.out.1 gb rfl; have h4 := hq.2; show q ≠ gb; omega) (.int .i64 bv))
            have KB9 : Aside0 (Kd.R (Kd.int .i64) 3 (w8.setCell ⟨gb, k, none⟩ (.int .i64 bv)) w13.heap.size (fun q => w13.heap.size ≤ q) (.slice (some ⟨gb, 0, none⟩) n cb) (lb.set k bv)) := ⟨by have h := Kd.R_putn KB8.out (k : Int) bv; simp only [Int.toNat_natCast] at h; exact h⟩
            clear cb_ fb_ hcc8 cy7 cy8 HM8 KG8 KP8 KB8 HM7d KG7d KP7d KB7d HM7 KG7 KP7 KB7
            generalize w8.setCell ⟨gb, k, none⟩ (.int .i64 bv) = w9 at HM9 KG9 KP9 KB9 ⊢
            have HRB : Aside0 (rdOf (0 : Int) (lb.set k bv) (k : Int) = bv) := ⟨(rdI_set lb k k bv (by have := HBL.out; omega)).trans (if_pos rfl)⟩
            have cb9 := (Kd.R_celln (0 : Int) KB9.out (k : Int) (by omega) (by omega)).1
            rw [HRB.out] at cb9
            simp only [Int.toNat_natCast] at cb9
            go_wp2_with fail
            go_roundw
            case rel => exact ⟨k + 1, by omega, by rw [HS3.out]; rfl, by go_num, ⟨by rw [HS1.out, if_neg Bool.false_ne_true]; exact HM9.out⟩, KG9, KP9, ⟨by rw [HS2.out, if_neg Bool.false_ne_true]; exact KB9.out⟩⟩
            case measure => simp [intOf]; omega
           go_wp2_with (first | ((with_reducible refine gate_dst (N := 33) rfl ?_); refine box_event rfl (N := 33) rfl (cs := #[.int .i64 0, .int .i64 0, .int .i64 0, .int .i64 0, .int .i64 0, .int .i64 0]) (t := 91) (by first | (go_simp; done) | (go_simp; rfl)) ?_; intro gx hgx w3 hbx hb; have KX0 := Aside0.mk hbx; have HGX : Aside0 (wr.heap.size ≤ gx) := ⟨by omega⟩; have BX := Aside0.mk hb; clear hgx hbx hb) | ((with_reducible refine gate_store (t := 91) (p := 33) rfl ?_); refine store_event (t := 91) (p := 33) (w1 := w3.setCells gx 0 (#[.int .i64 a0, .int .i64 a1, .int .i64 a2, .int .i64 a3, .int .i64 a4, .int .i64 a5] : Array Value).toList) rfl rfl rfl (store_run 91 (.tmp 33) (.tmp 204) gx #[.int .i64 a0, .int .i64 a1, .int .i64 a2, .int .i64 a3, .int .i64 a4, .int .i64 a5] rfl rfl rfl (there_row KX0.out _ (Nat.le_refl 6)) (by kernel_rfl) (all_oneCell_toArray (cs := [.int .i64 a0, .int .i64 a1, .int .i64 a2, .int .i64 a3, .int .i64 a4, .int .i64 a5]) (by intro v hv; simp only [List.mem_cons, List.not_mem_nil, or_false] at hv; rcases hv with rfl | rfl | rfl | rfl | rfl | rfl <;> rfl))) ?_; intro w4 hw3; have KX : Aside0 (w4.heap[gx]? = some (.cells #[.int .i64 a0, .int .i64 a1, .int .i64 a2, .int .i64 a3, .int .i64 a4, .int .i64 a5] 91 (0, 0))) := ⟨by rw [hw3]; exact sets_row KX0.out rfl⟩; have BX3 : Aside0 (Below wr.heap.size wr w4) := ⟨by rw [hw3]; exact sets_below HGX.out _ 0 _ BX.out⟩; clear hw3; have cx0 : w4.cell? ⟨gx, 0, none⟩ = some (.int .i64 a0) := (blk_cell KX.out 0).trans rfl; have cx1 : w4.cell? ⟨gx, 1, none⟩ = some (.int .i64 a1) := (blk_cell KX.out 1).trans rfl; have cx2 : w4.cell? ⟨gx, 2, none⟩ = some (.int .i64 a2) := (blk_cell KX.out 2).trans rfl; have cx3 : w4.cell? ⟨gx, 3, none⟩ = some (.int .i64 a3) := (blk_cell KX.out 3).trans rfl; have cx4 : w4.cell? ⟨gx, 4, none⟩ = some (.int .i64 a4) := (blk_cell KX.out 4).trans rfl; have cx5 : w4.cell? ⟨gx, 5, none⟩ = some (.int .i64 a5) := (blk_cell KX.out 5).trans rfl; have HM4 := Aside0.mk (HM.out.below BX3.out); have KG4 := Aside0.mk (blk_below KG.out BX3.out); have KP4 := Aside0.mk (Kd.R_below KP.out BX3.out); have KB4 := Aside0.mk (Kd.R_below KB.out BX3.out); have cT4 := HM4.out.cT; have hz4 : w4.cell? ⟨gt, k, none⟩ = some (.bool true) := cell_below hzc BX3.out))
           go_roundw
           case rel => exact ⟨k + 1, by omega, by rw [HS3.out]; rfl, by go_num, ⟨by rw [HS1.out, if_pos rfl]; exact HM4.out⟩, KG4, KP4, ⟨by rw [HS2.out, if_pos rfl]; exact KB4.out⟩⟩
           case measure => simp [intOf]; omega
          obtain rfl : n = k := by omega
          have HPR : Aside0 (partsR gr L X Y Z n bg = ps) := ⟨by unfold partsR; rw [HNW.out, HSM.out, HV1.out, HV2.out, HV3.out, HPS.out]⟩
          have HLOP3 : Aside0 (loopR gr L X n bg k1 (isR gr ps X Z Y n) (stR (allR gr ps X Z n) (byR gr ps X Z n n) Z n) = some r) := ⟨by have h := HLOP2.out; unfold turnR at h; rw [HPR.out] at h; exact h⟩
          have HZL : Aside0 (Z.length = n) := ⟨(Kd.R_reads' HM.out.RT).1.symm⟩
          clear HLOP2 HPR KP
          obtain ⟨al, hal⟩ : ∃ q, allR gr ps X Z n = q := ⟨_, rfl⟩
          rw [hal] at HLOP3 ⊢
          clear hal
          obtain ⟨lb, hlb⟩ : ∃ q, byR gr ps X Z n n = q := ⟨_, rfl⟩
          have HBL : Aside0 (lb.length = n) := ⟨by rw [← hlb]; exact byR_length _ _ _ _ _ _⟩
          rw [hlb] at HLOP3 KB
          clear hlb
          obtain ⟨ly, hly⟩ : ∃ q, isR gr ps X Z Y n = q := ⟨_, rfl⟩
          rw [hly] at HLOP3 HM
          clear hly
          have cI := HM.out.cI
          go_wp2_with fail
          clear cI
          go_loopw [247] (fun i wr => ∃ k : Nat, k ≤ n ∧ i = .int .i64 k ∧ Aside0 (RM w wr gL g6 g7 g8 A1 A3 A5 c1 c3 c5 n L X ly (stR al lb Z k)) ∧ Aside0 (wr.heap[gG]? = some (.cells #[.bool gr] 4 (0, 0))) ∧ Aside0 (Kd.R (Kd.int .i64) 3 wr w13.heap.size (fun q => w13.heap.size ≤ q) (.slice Ab n cb) lb)) (fun i _ => n - (intOf i).toNat)
          case atStart => exact ⟨0, Nat.zero_le _, rfl, HM, KG, KB⟩
          case round => as_aux_lemma =>
           clear HM KG KB
           obtain ⟨k, hk, rfl, HM, KG, KB⟩ := hrel
           by_cases hlt : k < n
           ·
            obtain ⟨gi, gs, gt, rfl, rfl, rfl⟩ := HM.out.forms (by omega)
            obtain ⟨gb, cb2, hAb, _, _⟩ := Kd.R_form KB.out (by have := HBL.out; omega)
            injection hAb with hAb hq_ hcb
            subst hAb; subst hcb; clear hq_
            have NT : Aside0 (gt < gL) := ⟨HM.out.RT.1 gt rfl⟩
            obtain ⟨z, hz⟩ : ∃ z, rdOf false Z (k : Int) = z := ⟨_, rfl⟩
            obtain ⟨bk, hbk⟩ : ∃ q, rd lb (k : Int) = q := ⟨_, rfl⟩
            have HS : Aside0 (stR al lb Z (k + 1) = (stR al lb Z k).set k (setR al bk z)) := ⟨by rw [← hz, ← hbk]; rfl⟩
            have hzr : rdOf false (stR al lb Z k) (k : Int) = z := by rw [stR_rd al lb Z k k (by have := HZL.out; omega), if_neg (Nat.lt_irrefl k)]; exact hz
            obtain ⟨lz, hlz⟩ : ∃ q, stR al lb Z k = q := ⟨_, rfl⟩
            rw [hlz] at HS HM hzr
            clear hlz hz
            go_upto_region 56 with fail
            have HMd := Aside0.mk HM.out.drew
            have KBd := Aside0.mk (Kd.R_below KB.out (below_drew1b (Below.refl _ _)))
            have KGd : Aside0 (wr.drew.heap[gG]? = _) := ⟨KG.out⟩
            obtain ⟨ct_, ft_⟩ := Kd.R_celln false HMd.out.RT (k : Int) (by omega) (by omega)
            rw [hzr] at ct_
            simp only [Int.toNat_natCast] at ct_ ft_
            have cb_ := (Kd.R_celln (0 : Int) KBd.out (k : Int) (by omega) (by omega)).1
            rw [show rdOf (0 : Int) lb (k : Int) = bk from hbk] at cb_
            simp only [Int.toNat_natCast] at cb_
            clear hzr hbk
            cases z
            ·
             by_cases h0 : al = 0
             ·
              have e0 : (al == 0) = true := beq_iff_eq.mpr h0
              clear h0
              as_aux_lemma =>
               have HV : Aside0 (setR al bk false = true) := ⟨by unfold setR; rw [e0]; rfl⟩
               rw [HV.out] at HS
               clear HV
               refine start_ (n := 34) (S := fun w' => w'.cell? ⟨g8, 0, none⟩ = some (.slice (some ⟨gt, 0, none⟩) n c5) ∧ w'.cell? ⟨gt, k, none⟩ = some (.bool false) ∧ w'.cell? ⟨gb, k, none⟩ = some (.int .i64 bk)) (ds := [33]) B62_ (by kernel_rfl) rfl rfl ⟨HMd.out.cT, ct_, cb_⟩ (fun hHeld => ?_)
               refine pure_ (i := 1) (N := some 251) (v := ?_) (a' := ?_) B63_ rfl rfl (by kernel_rfl) (fun _ _ _ h => h) (Or.inl ⟨by rfl, ?_⟩) ?_ ?_
               rotate_left; · intro w'; go_simp; with_reducible rfl
               rotate_left; · simp only [Act.put, q1_, q2_, q3_, i64_w, i32_w]; rfl
               refine pure_ (i := 3) (N := some 253) (v := ?_) (a' := ?_) B64_ rfl rfl (by kernel_rfl) (fun _ _ _ h => h) (Or.inl ⟨by rfl, ?_⟩) ?_ ?_
               rotate_left; · intro w'; go_simp; with_reducible rfl
               rotate_left; · simp only [Act.put, q1_, q2_, q3_, i64_w, i32_w]; rfl
               refine take_ (i := 0) (N := some 250) (v := ?_) (a' := ?_) B65_ rfl rfl (by kernel_rfl) (fun _ _ _ h => h) (Or.inl ⟨by rfl, ?_⟩) hHeld ?_ ?_
               rotate_left; · rintro w' ⟨s0, s1, s2⟩; go_simp; with_reducible rfl
               rotate_left; · simp only [Act.put, q1_, q2_, q3_, i64_w, i32_w]; rfl
               refine take_ (i := 2) (N := some 252) (v := ?_) (a' := ?_) B66_ rfl rfl (by kernel_rfl) (fun _ _ _ h => h) (Or.inl ⟨by rfl, ?_⟩) hHeld ?_ ?_
               rotate_left; · rintro w' ⟨s0, s1, s2⟩; go_simp; with_reducible rfl
               rotate_left; · simp only [Act.put, q1_, q2_, q3_, i64_w, i32_w]; rfl
               refine pure_ (i := 4) (N := some 254) (v := ?_) (a' := ?_) B67_ rfl rfl (by kernel_rfl) (fun _ _ _ h => h) (Or.inl ⟨by rfl, ?_⟩) ?_ ?_
               rotate_left; · intro w'; go_simp; with_reducible rfl
               rotate_left; · simp only [Act.put, q1_, q2_, q3_, i64_w, i32_w]; rfl
               refine take_ (i := 5) (N := some 255) (v := ?_) (a' := ?_) B68_ rfl rfl (by kernel_rfl) (fun _ _ _ h => h) (Or.inl ⟨by rfl, ?_⟩) hHeld ?_ ?_
               rotate_left; · rintro w' ⟨s0, s1, s2⟩; go_simp; with_reducible rfl
               rotate_left; · simp only [Act.put, q1_, q2_, q3_, i64_w, i32_w]; rfl
               refine pure_ (i := 6) (N := some 256) (v := ?_) (a' := ?_) B69_ rfl rfl (by kernel_rfl) (fun _ _ _ h => h) (Or.inl ⟨by rfl, ?_⟩) ?_ ?_
               rotate_left; · intro w'; go_simp; with_reducible rfl
               rotate_left; · simp only [Act.put, q1_, q2_, q3_, i64_w, i32_w]; rfl
               refine pure_ (i := 7) (N := some 257) (v := ?_) (a' := ?_) B70_ rfl rfl (by kernel_rfl) (fun _ _ _ h => h) (Or.inl ⟨by rfl, ?_⟩) ?_ ?_
               rotate_left; · intro w'; go_simp; with_reducible rfl
               rotate_left; · simp only [Act.put, q1_, q2_, q3_, i64_w, i32_w]; rfl
               refine pure_ (i := 8) (N := some 258) (v := ?_) (a' := ?_) B71_ rfl rfl (by kernel_rfl) (fun _ _ _ h => h) (Or.inl ⟨by rfl, ?_⟩) ?_ ?_
               rotate_left; · intro w'; go_simp; with_reducible rfl
               rotate_left; · simp only [Act.put, q1_, q2_, q3_, i64_w, i32_w]; rfl
               refine pure_ (i := 9) (N := some 259) (v := ?_) (a' := ?_) B72_ rfl rfl (by kernel_rfl) (fun _ _ _ h => h) (Or.inl ⟨by rfl, ?_⟩) ?_ ?_
               rotate_left; · intro w'; go_simp; with_reducible rfl
               rotate_left; · simp only [Act.put, q1_, q2_, q3_, i64_w, i32_w]; rfl
               refine pure_ (i := 10) (N := some 260) (v := ?_) (a' := ?_) B73_ rfl rfl (by kernel_rfl) (fun _ _ _ h => h) (Or.inl ⟨by rfl, ?_⟩) ?_ ?_
               rotate_left; · intro w'; go_simp; with_reducible rfl
               rotate_left; · simp only [Act.put, q1_, q2_, q3_, i64_w, i32_w]; rfl
               refine pure_ (i := 11) (N := some 261) (v := undef) (a' := ?_) B74_ rfl rfl (by kernel_rfl) (fun _ _ _ h => h) (Or.inr ⟨by rfl, rfl⟩) ?_ ?_
               rotate_left; · simp only [Act.put, q1_, q2_, q3_, i64_w, i32_w]; rfl
               refine pure_ (i := 12) (N := some 262) (v := undef) (a' := ?_) B75_ rfl rfl (by kernel_rfl) (fun _ _ _ h => h) (Or.inr ⟨by rfl, rfl⟩) ?_ ?_
               rotate_left; · simp only [Act.put, q1_, q2_, q3_, i64_w, i32_w]; rfl
               refine pure_ (i := 13) (N := some 263) (v := undef) (a' := ?_) B76_ rfl rfl (by kernel_rfl) (fun _ _ _ h => h) (Or.inr ⟨by rfl, rfl⟩) ?_ ?_
               rotate_left; · simp only [Act.put, q1_, q2_, q3_, i64_w, i32_w]; rfl
               refine pure_ (i := 14) (N := some 264) (v := undef) (a' := ?_) B77_ rfl rfl (by kernel_rfl) (fun _ _ _ h => h) (Or.inr ⟨by rfl, rfl⟩) ?_ ?_
               rotate_left; · simp only [Act.put, q1_, q2_, q3_, i64_w, i32_w]; rfl
               refine pure_ (i := 15) (N := some 265) (v := undef) (a' := ?_) B78_ rfl rfl (by kernel_rfl) (fun _ _ _ h => h) (Or.inr ⟨by rfl, rfl⟩) ?_ ?_
               rotate_left; · simp only [Act.put, q1_, q2_, q3_, i64_w, i32_w]; rfl
               refine pure_ (i := 16) (N := some 266) (v := undef) (a' := ?_) B79_ rfl rfl (by kernel_rfl) (fun _ _ _ h => h) (Or.inr ⟨by rfl, rfl⟩) ?_ ?_
               rotate_left; · simp only [Act.put, q1_, q2_, q3_, i64_w, i32_w]; rfl
               refine pure_ (i := 17) (N := some 267) (v := undef) (a' := ?_) B80_ rfl rfl (by kernel_rfl) (fun _ _ _ h => h) (Or.inr ⟨by rfl, rfl⟩) ?_ ?_
               rotate_left; · simp only [Act.put, q1_, q2_, q3_, i64_w, i32_w]; rfl
               refine pure_ (i := 18) (N := some 268) (v := undef) (a' := ?_) B81_ rfl rfl (by kernel_rfl) (fun _ _ _ h => h) (Or.inr ⟨by rfl, rfl⟩) ?_ ?_
               rotate_left; · simp only [Act.put, q1_, q2_, q3_, i64_w, i32_w]; rfl
               refine pure_ (i := 19) (N := some 269) (v := undef) (a' := ?_) B82_ rfl rfl (by kernel_rfl) (fun _ _ _ h => h) (Or.inr ⟨by rfl, rfl⟩) ?_ ?_
               rotate_left; · simp only [Act.put, q1_, q2_, q3_, i64_w, i32_w]; rfl
               refine pure_ (i := 20) (N := some 270) (v := ?_) (a' := ?_) B83_ rfl rfl (by kernel_rfl) (fun _ _ _ h => h) (Or.inl ⟨by rfl, ?_⟩) ?_ ?_
               rotate_left; · intro w'; go_simp; with_reducible rfl
               rotate_left; · simp only [Act.put, q1_, q2_, q3_, i64_w, i32_w]; rfl
               refine pure_ (i := 21) (N := some 271) (v := ?_) (a' := ?_) B84_ rfl rfl (by kernel_rfl) (fun _ _ _ h => h) (Or.inl ⟨by rfl, ?_⟩) ?_ ?_
               rotate_left; · intro w'; go_simp; with_reducible rfl
               rotate_left; · simp only [Act.put, q1_, q2_, q3_, i64_w, i32_w]; rfl
               refine pure_ (i := 22) (N := some 272) (v := undef) (a' := ?_) B85_ rfl rfl (by kernel_rfl) (fun _ _ _ h => h) (Or.inr ⟨by rfl, rfl⟩) ?_ ?_
               rotate_left; · simp only [Act.put, q1_, q2_, q3_, i64_w, i32_w]; rfl
               refine pure_ (i := 23) (N := some 273) (v := undef) (a' := ?_) B86_ rfl rfl (by kernel_rfl) (fun _ _ _ h => h) (Or.inr ⟨by rfl, rfl⟩) ?_ ?_
               rotate_left; · simp only [Act.put, q1_, q2_, q3_, i64_w, i32_w]; rfl
               refine pure_ (i := 24) (N := some 274) (v := undef) (a' := ?_) B87_ rfl rfl (by kernel_rfl) (fun _ _ _ h => h) (Or.inr ⟨by rfl, rfl⟩) ?_ ?_
               rotate_left; · simp only [Act.put, q1_, q2_, q3_, i64_w, i32_w]; rfl
               refine pure_ (i := 25) (N := some 275) (v := undef) (a' := ?_) B88_ rfl rfl (by kernel_rfl) (fun _ _ _ h => h) (Or.inr ⟨by rfl, rfl⟩) ?_ ?_
               rotate_left; · simp only [Act.put, q1_, q2_, q3_, i64_w, i32_w]; rfl
               refine pure_ (i := 26) (N := some 276) (v := undef) (a' := ?_) B89_ rfl rfl (by kernel_rfl) (fun _ _ _ h => h) (Or.inr ⟨by rfl, rfl⟩) ?_ ?_
               rotate_left; · simp only [Act.put, q1_, q2_, q3_, i64_w, i32_w]; rfl
               refine pure_ (i := 27) (N := some 277) (v := undef) (a' := ?_) B90_ rfl rfl (by kernel_rfl) (fun _ _ _ h => h) (Or.inr ⟨by rfl, rfl⟩) ?_ ?_
               rotate_left; · simp only [Act.put, q1_, q2_, q3_, i64_w, i32_w]; rfl
               refine pure_ (i := 28) (N := some 278) (v := undef) (a' := ?_) B91_ rfl rfl (by kernel_rfl) (fun _ _ _ h => h) (Or.inr ⟨by rfl, rfl⟩) ?_ ?_
               rotate_left; · simp only [Act.put, q1_, q2_, q3_, i64_w, i32_w]; rfl
               refine pure_ (i := 29) (N := some 279) (v := undef) (a' := ?_) B92_ rfl rfl (by kernel_rfl) (fun _ _ _ h => h) (Or.inr ⟨by rfl, rfl⟩) ?_ ?_
               rotate_left; · simp only [Act.put, q1_, q2_, q3_, i64_w, i32_w]; rfl
               refine pure_ (i := 30) (N := some 280) (v := undef) (a' := ?_) B93_ rfl rfl (by kernel_rfl) (fun _ _ _ h => h) (Or.inr ⟨by rfl, rfl⟩) ?_ ?_
               rotate_left; · simp only [Act.put, q1_, q2_, q3_, i64_w, i32_w]; rfl
               refine pure_ (i := 31) (N := some 281) (v := ?_) (a' := ?_) B94_ rfl rfl (by kernel_rfl) (fun _ _ _ h => h) (Or.inl ⟨by rfl, ?_⟩) ?_ ?_
               rotate_left; · intro w'; go_simp; with_reducible rfl
               rotate_left; · simp only [Act.put, q1_, q2_, q3_, i64_w, i32_w]; rfl
               refine pure_ (i := 32) (N := some 282) (v := ?_) (a' := ?_) B95_ rfl rfl (by kernel_rfl) (fun _ _ _ h => h) (Or.inl ⟨by rfl, ?_⟩) ?_ ?_
               rotate_left; · intro w'; go_simp; with_reducible rfl
               rotate_left; · simp only [Act.put, q1_, q2_, q3_, i64_w, i32_w]; rfl
               refine last_ (i := 33) (N := none) B96_ rfl rfl (by kernel_rfl) (by decide) (fun K hK => ?_)
               refine skip_ (w1 := ?_) (by rfl) rfl ?_ ?_
               rotate_left
               ·
                go_simp
                rfl
               refine hK.out _ _ ?_
               clear hK K
               refine done_ (by kernel_rfl) ?_
               have HM9 := Aside0.mk (HM.out.stPut k true).drew
               have KG9 : Aside0 ((wr.setCell ⟨gt, k, none⟩ (.bool true)).drew.heap[gG]? = some (.cells #[.bool gr] 4 (0, 0))) := ⟨blk_far (p := ⟨gt, k, none⟩) KG.out (by have h1 := NT.out; have h2 := GG.out; show gG ≠ gt; omega) (.bool true)⟩
               have KB9 := Aside0.mk (Kd.R_below (Kd.R_far (p := ⟨gt, k, none⟩) KB.out (fun q hq => by have h1 := NT.out; have h2 := GG.out; have h3 := GB.out; have h4 : w13.heap.size ≤ q := hq; show q ≠ gt; omega) (.bool true)) (below_drew1b (Below.refl _ _)))
               clear ct_ ft_ cb_ HMd KGd KBd HM KG KB
               generalize (wr.setCell ⟨gt, k, none⟩ (.bool true)).drew = w9 at HM9 KG9 KB9 ⊢
               go_wp2_with fail
               go_roundw
               case rel => exact ⟨k + 1, by omega, by go_num, ⟨by rw [HS.out]; exact HM9.out⟩, KG9, KB9⟩
               case measure => simp [intOf]; omega
             have e0 : (al == 0) = false := beq_eq_false_iff_ne.mpr h0
             by_cases h1 : 0 < al
             ·
              have e1 : decide (0 < al) = true := decide_eq_true h1
              have e2 : decide (al < 0) = false := decide_eq_false (by omega)
              clear h0 h1
              have e1_ : decide (al > 0) = true := e1
              by_cases h2 : 0 < bk
              ·
               have e3 : decide (0 < bk) = true := decide_eq_true h2
               have e3_ : decide (bk > 0) = true := e3
               clear h2
               as_aux_lemma =>
                have HV : Aside0 (setR al bk false = true) := ⟨by unfold setR; rw [e0, e1_, e3_]; rfl⟩
                rw [HV.out] at HS
                clear HV
                refine start_ (n := 34) (S := fun w' => w'.cell? ⟨g8, 0, none⟩ = some (.slice (some ⟨gt, 0, none⟩) n c5) ∧ w'.cell? ⟨gt, k, none⟩ = some (.bool false) ∧ w'.cell? ⟨gb, k, none⟩ = some (.int .i64 bk)) (ds := [33]) B62_ (by kernel_rfl) rfl rfl ⟨HMd.out.cT, ct_, cb_⟩ (fun hHeld => ?_)
                refine pure_ (i := 1) (N := some 251) (v := ?_) (a' := ?_) B63_ rfl rfl (by kernel_rfl) (fun _ _ _ h => h) (Or.inl ⟨by rfl, ?_⟩) ?_ ?_
                rotate_left; · intro w'; go_simp; with_reducible rfl
                rotate_left; · simp only [Act.put, q1_, q2_, q3_, i64_w, i32_w]; rfl
                refine pure_ (i := 3) (N := some 253) (v := ?_) (a' := ?_) B64_ rfl rfl (by kernel_rfl) (fun _ _ _ h => h) (Or.inl ⟨by rfl, ?_⟩) ?_ ?_
                rotate_left; · intro w'; go_simp; with_reducible rfl
                rotate_left; · simp only [Act.put, q1_, q2_, q3_, i64_w, i32_w]; rfl
                refine take_ (i := 0) (N := some 250) (v := ?_) (a' := ?_) B65_ rfl rfl (by kernel_rfl) (fun _ _ _ h => h) (Or.inl ⟨by rfl, ?_⟩) hHeld ?_ ?_
                rotate_left; · rintro w' ⟨s0, s1, s2⟩; go_simp; with_reducible rfl
                rotate_left; · simp only [Act.put, q1_, q2_, q3_, i64_w, i32_w]; rfl
                refine take_ (i := 2) (N := some 252) (v := ?_) (a' := ?_) B66_ rfl rfl (by kernel_rfl) (fun _ _ _ h => h) (Or.inl ⟨by rfl, ?_⟩) hHeld ?_ ?_
                rotate_left; · rintro w' ⟨s0, s1, s2⟩; go_simp; with_reducible rfl
                rotate_left; · simp only [Act.put, q1_, q2_, q3_, i64_w, i32_w]; rfl
                refine pure_ (i := 4) (N := some 254) (v := ?_) (a' := ?_) B67_ rfl rfl (by kernel_rfl) (fun _ _ _ h => h) (Or.inl ⟨by rfl, ?_⟩) ?_ ?_
                rotate_left; · intro w'; go_simp; with_reducible rfl
                rotate_left; · simp only [Act.put, q1_, q2_, q3_, i64_w, i32_w]; rfl
                refine take_ (i := 5) (N := some 255) (v := ?_) (a' := ?_) B68_ rfl rfl (by kernel_rfl) (fun _ _ _ h => h) (Or.inl ⟨by rfl, ?_⟩) hHeld ?_ ?_
                rotate_left; · rintro w' ⟨s0, s1, s2⟩; go_simp; with_reducible rfl
                rotate_left; · simp only [Act.put, q1_, q2_, q3_, i64_w, i32_w]; rfl
                refine pure_ (i := 6) (N := some 256) (v := ?_) (a' := ?_) B69_ rfl rfl (by kernel_rfl) (fun _ _ _ h => h) (Or.inl ⟨by rfl, ?_⟩) ?_ ?_
                rotate_left; · intro w'; go_simp; with_reducible rfl
                rotate_left; · simp only [Act.put, q1_, q2_, q3_, i64_w, i32_w]; rfl
                refine pure_ (i := 7) (N := some 257) (v := ?_) (a' := ?_) B70_ rfl rfl (by kernel_rfl) (fun _ _ _ h => h) (Or.inl ⟨by rfl, ?_⟩) ?_ ?_
                rotate_left; · intro w'; go_simp; with_reducible rfl
                rotate_left; · simp only [Act.put, q1_, q2_, q3_, i64_w, i32_w]; rfl
                refine pure_ (i := 8) (N := some 258) (v := ?_) (a' := ?_) B71_ rfl rfl (by kernel_rfl) (fun _ _ _ h => h) (Or.inl ⟨by rfl, ?_⟩) ?_ ?_
                rotate_left; · intro w'; go_simp; with_reducible rfl
                rotate_left; · simp only [Act.put, q1_, q2_, q3_, i64_w, i32_w]; rfl
                refine pure_ (i := 9) (N := some 259) (v := ?_) (a' := ?_) B72_ rfl rfl (by kernel_rfl) (fun _ _ _ h => h) (Or.inl ⟨by rfl, ?_⟩) ?_ ?_
                rotate_left; · intro w'; go_simp; with_reducible rfl
                rotate_left; · simp only [Act.put, q1_, q2_, q3_, i64_w, i32_w]; rfl
                refine pure_ (i := 10) (N := some 260) (v := ?_) (a' := ?_) B73_ rfl rfl (by kernel_rfl) (fun _ _ _ h => h) (Or.inl ⟨by rfl, ?_⟩) ?_ ?_
                rotate_left; · intro w'; go_simp; with_reducible rfl
                rotate_left; · simp only [Act.put, q1_, q2_, q3_, i64_w, i32_w]; rfl
                refine pure_ (i := 11) (N := some 261) (v := ?_) (a' := ?_) B74_ rfl rfl (by kernel_rfl) (fun _ _ _ h => h) (Or.inl ⟨by rfl, ?_⟩) ?_ ?_
                rotate_left; · intro w'; go_simp; with_reducible rfl
                rotate_left; · simp only [Act.put, q1_, q2_, q3_, i64_w, i32_w]; rfl
                refine pure_ (i := 12) (N := some 262) (v := ?_) (a' := ?_) B75_ rfl rfl (by kernel_rfl) (fun _ _ _ h => h) (Or.inl ⟨by rfl, ?_⟩) ?_ ?_
                rotate_left; · intro w'; go_simp; with_reducible rfl
                rotate_left; · simp only [Act.put, q1_, q2_, q3_, i64_w, i32_w]; rfl
                refine pure_ (i := 13) (N := some 263) (v := ?_) (a' := ?_) B76_ rfl rfl (by kernel_rfl) (fun _ _ _ h => h) (Or.inl ⟨by rfl, ?_⟩) ?_ ?_
                rotate_left; · intro w'; go_simp; with_reducible rfl
                rotate_left; · simp only [Act.put, q1_, q2_, q3_, i64_w, i32_w]; rfl
                refine pure_ (i := 14) (N := some 264) (v := ?_) (a' := ?_) B77_ rfl rfl (by kernel_rfl) (fun _ _ _ h => h) (Or.inl ⟨by rfl, ?_⟩) ?_ ?_
                rotate_left; · intro w'; go_simp; with_reducible rfl
                rotate_left; · simp only [Act.put, q1_, q2_, q3_, i64_w, i32_w]; rfl
                refine pure_ (i := 15) (N := some 265) (v := ?_) (a' := ?_) B78_ rfl rfl (by kernel_rfl) (fun _ _ _ h => h) (Or.inl ⟨by rfl, ?_⟩) ?_ ?_
                rotate_left; · intro w'; go_simp; with_reducible rfl
                rotate_left; · simp only [Act.put, q1_, q2_, q3_, i64_w, i32_w]; rfl
                refine pure_ (i := 16) (N := some 266) (v := ?_) (a' := ?_) B79_ rfl rfl (by kernel_rfl) (fun _ _ _ h => h) (Or.inl ⟨by rfl, ?_⟩) ?_ ?_
                rotate_left; · intro w'; go_simp; with_reducible rfl
                rotate_left; · simp only [Act.put, q1_, q2_, q3_, i64_w, i32_w]; rfl
                refine take_ (i := 17) (N := some 267) (v := ?_) (a' := ?_) B80_ rfl rfl (by kernel_rfl) (fun _ _ _ h => h) (Or.inl ⟨by rfl, ?_⟩) hHeld ?_ ?_
                rotate_left; · rintro w' ⟨s0, s1, s2⟩; go_simp; with_reducible rfl
                rotate_left; · simp only [Act.put, q1_, q2_, q3_, i64_w, i32_w]; rfl
                refine pure_ (i := 18) (N := some 268) (v := ?_) (a' := ?_) B81_ rfl rfl (by kernel_rfl) (fun _ _ _ h => h) (Or.inl ⟨by rfl, ?_⟩) ?_ ?_
                rotate_left; · intro w'; go_simp; with_reducible rfl
                rotate_left; · simp only [Act.put, q1_, q2_, q3_, i64_w, i32_w]; rfl
                refine pure_ (i := 19) (N := some 269) (v := ?_) (a' := ?_) B82_ rfl rfl (by kernel_rfl) (fun _ _ _ h => h) (Or.inl ⟨by rfl, ?_⟩) ?_ ?_
                rotate_left; · intro w'; go_simp; with_reducible rfl
                rotate_left; · simp only [Act.put, q1_, q2_, q3_, i64_w, i32_w]; rfl
                refine pure_ (i := 20) (N := some 270) (v := ?_) (a' := ?_) B83_ rfl rfl (by kernel_rfl) (fun _ _ _ h => h) (Or.inl ⟨by rfl, ?_⟩) ?_ ?_
                rotate_left; · intro w'; go_simp; with_reducible rfl
                rotate_left; · simp only [Act.put, q1_, q2_, q3_, i64_w, i32_w]; rfl
                refine pure_ (i := 21) (N := some 271) (v := ?_) (a' := ?_) B84_ rfl rfl (by kernel_rfl) (fun _ _ _ h => h) (Or.inl ⟨by rfl, ?_⟩) ?_ ?_
                rotate_left; · intro w'; go_simp; with_reducible rfl
                rotate_left; · simp only [Act.put, q1_, q2_, q3_, i64_w, i32_w]; rfl
                refine pure_ (i := 22) (N := some 272) (v := undef) (a' := ?_) B85_ rfl rfl (by kernel_rfl) (fun _ _ _ h => h) (Or.inr ⟨by rfl, rfl⟩) ?_ ?_
                rotate_left; · simp only [Act.put, q1_, q2_, q3_, i64_w, i32_w]; rfl
                refine pure_ (i := 23) (N := some 273) (v := undef) (a' := ?_) B86_ rfl rfl (by kernel_rfl) (fun _ _ _ h => h) (Or.inr ⟨by rfl, rfl⟩) ?_ ?_
                rotate_left; · simp only [Act.put, q1_, q2_, q3_, i64_w, i32_w]; rfl
                refine pure_ (i := 24) (N := some 274) (v := undef) (a' := ?_) B87_ rfl rfl (by kernel_rfl) (fun _ _ _ h => h) (Or.inr ⟨by rfl, rfl⟩) ?_ ?_
                rotate_left; · simp only [Act.put, q1_, q2_, q3_, i64_w, i32_w]; rfl
                refine pure_ (i := 25) (N := some 275) (v := undef) (a' := ?_) B88_ rfl rfl (by kernel_rfl) (fun _ _ _ h => h) (Or.inr ⟨by rfl, rfl⟩) ?_ ?_
                rotate_left; · simp only [Act.put, q1_, q2_, q3_, i64_w, i32_w]; rfl
                refine pure_ (i := 26) (N := some 276) (v := undef) (a' := ?_) B89_ rfl rfl (by kernel_rfl) (fun _ _ _ h => h) (Or.inr ⟨by rfl, rfl⟩) ?_ ?_
                rotate_left; · simp only [Act.put, q1_, q2_, q3_, i64_w, i32_w]; rfl
                refine pure_ (i := 27) (N := some 277) (v := undef) (a' := ?_) B90_ rfl rfl (by kernel_rfl) (fun _ _ _ h => h) (Or.inr ⟨by rfl, rfl⟩) ?_ ?_
                rotate_left; · simp only [Act.put, q1_, q2_, q3_, i64_w, i32_w]; rfl
                refine pure_ (i := 28) (N := some 278) (v := undef) (a' := ?_) B91_ rfl rfl (by kernel_rfl) (fun _ _ _ h => h) (Or.inr ⟨by rfl, rfl⟩) ?_ ?_
                rotate_left; · simp only [Act.put, q1_, q2_, q3_, i64_w, i32_w]; rfl
                refine pure_ (i := 29) (N := some 279) (v := undef) (a' := ?_) B92_ rfl rfl (by kernel_rfl) (fun _ _ _ h => h) (Or.inr ⟨by rfl, rfl⟩) ?_ ?_
                rotate_left; · simp only [Act.put, q1_, q2_, q3_, i64_w, i32_w]; rfl
                refine pure_ (i := 30) (N := some 280) (v := undef) (a' := ?_) B93_ rfl rfl (by kernel_rfl) (fun _ _ _ h => h) (Or.inr ⟨by rfl, rfl⟩) ?_ ?_
                rotate_left; · simp only [Act.put, q1_, q2_, q3_, i64_w, i32_w]; rfl
                refine pure_ (i := 31) (N := some 281) (v := ?_) (a' := ?_) B94_ rfl rfl (by kernel_rfl) (fun _ _ _ h => h) (Or.inl ⟨by rfl, ?_⟩) ?_ ?_
                rotate_left; · intro w'; go_simp; with_reducible rfl
                rotate_left; · simp only [Act.put, q1_, q2_, q3_, i64_w, i32_w]; rfl
                refine pure_ (i := 32) (N := some 282) (v := ?_) (a' := ?_) B95_ rfl rfl (by kernel_rfl) (fun _ _ _ h => h) (Or.inl ⟨by rfl, ?_⟩) ?_ ?_
                rotate_left; · intro w'; go_simp; with_reducible rfl
                rotate_left; · simp only [Act.put, q1_, q2_, q3_, i64_w, i32_w]; rfl
                refine last_ (i := 33) (N := none) B96_ rfl rfl (by kernel_rfl) (by decide) (fun K hK => ?_)
                refine skip_ (w1 := ?_) (by rfl) rfl ?_ ?_
                rotate_left
                ·
                 go_simp
                 rfl
                refine hK.out _ _ ?_
                clear hK K
                refine done_ (by kernel_rfl) ?_
                have HM9 := Aside0.mk (HM.out.stPut k true).drew
                have KG9 : Aside0 ((wr.setCell ⟨gt, k, none⟩ (.bool true)).drew.heap[gG]? = some (.cells #[.bool gr] 4 (0, 0))) := ⟨blk_far (p := ⟨gt, k, none⟩) KG.out (by have h1 := NT.out; have h2 := GG.out; show gG ≠ gt; omega) (.bool true)⟩
                have KB9 := Aside0.mk (Kd.R_below (Kd.R_far (p := ⟨gt, k, none⟩) KB.out (fun q hq => by have h1 := NT.out; have h2 := GG.out; have h3 := GB.out; have h4 : w13.heap.size ≤ q := hq; show q ≠ gt; omega) (.bool true)) (below_drew1b (Below.refl _ _)))
                clear ct_ ft_ cb_ HMd KGd KBd HM KG KB
                generalize (wr.setCell ⟨gt, k, none⟩ (.bool true)).drew = w9 at HM9 KG9 KB9 ⊢
                go_wp2_with fail
                go_roundw
                case rel => exact ⟨k + 1, by omega, by go_num, ⟨by rw [HS.out]; exact HM9.out⟩, KG9, KB9⟩
                case measure => simp [intOf]; omega
              have e3 : decide (0 < bk) = false := decide_eq_false h2
              have e3_ : decide (bk > 0) = false := e3
              clear h2
              as_aux_lemma =>
               have HV : Aside0 (setR al bk false = false) := ⟨by unfold setR; rw [e0, e1_, e3_, e2]; rfl⟩
               rw [HV.out] at HS
               clear HV
               refine start_ (n := 34) (S := fun w' => w'.cell? ⟨g8, 0, none⟩ = some (.slice (some ⟨gt, 0, none⟩) n c5) ∧ w'.cell? ⟨gt, k, none⟩ = some (.bool false) ∧ w'.cell? ⟨gb, k, none⟩ = some (.int .i64 bk)) (ds := [33]) B62_ (by kernel_rfl) rfl rfl ⟨HMd.out.cT, ct_, cb_⟩ (fun hHeld => ?_)
               refine pure_ (i := 1) (N := some 251) (v := ?_) (a' := ?_) B63_ rfl rfl (by kernel_rfl) (fun _ _ _ h => h) (Or.inl ⟨by rfl, ?_⟩) ?_ ?_
               rotate_left; · intro w'; go_simp; with_reducible rfl
               rotate_left; · simp only [Act.put, q1_, q2_, q3_, i64_w, i32_w]; rfl
               refine pure_ (i := 3) (N := some 253) (v := ?_) (a' := ?_) B64_ rfl rfl (by kernel_rfl) (fun _ _ _ h => h) (Or.inl ⟨by rfl, ?_⟩) ?_ ?_
               rotate_left; · intro w'; go_simp; with_reducible rfl
               rotate_left; · simp only [Act.put, q1_, q2_, q3_, i64_w, i32_w]; rfl
               refine take_ (i := 0) (N := some 250) (v := ?_) (a' := ?_) B65_ rfl rfl (by kernel_rfl) (fun _ _ _ h => h) (Or.inl ⟨by rfl, ?_⟩) hHeld ?_ ?_
               rotate_left; · rintro w' ⟨s0, s1, s2⟩; go_simp; with_reducible rfl
               rotate_left; · simp only [Act.put, q1_, q2_, q3_, i64_w, i32_w]; rfl
               refine take_ (i := 2) (N := some 252) (v := ?_) (a' := ?_) B66_ rfl rfl (by kernel_rfl) (fun _ _ _ h => h) (Or.inl ⟨by rfl, ?_⟩) hHeld ?_ ?_
               rotate_left; · rintro w' ⟨s0, s1, s2⟩; go_simp; with_reducible rfl
               rotate_left; · simp only [Act.put, q1_, q2_, q3_, i64_w, i32_w]; rfl
               refine pure_ (i := 4) (N := some 254) (v := ?_) (a' := ?_) B67_ rfl rfl (by kernel_rfl) (fun _ _ _ h => h) (Or.inl ⟨by rfl, ?_⟩) ?_ ?_
               rotate_left; · intro w'; go_simp; with_reducible rfl
               rotate_left; · simp only [Act.put, q1_, q2_, q3_, i64_w, i32_w]; rfl
               refine take_ (i := 5) (N := some 255) (v := ?_) (a' := ?_) B68_ rfl rfl (by kernel_rfl) (fun _ _ _ h => h) (Or.inl ⟨by rfl, ?_⟩) hHeld ?_ ?_
               rotate_left; · rintro w' ⟨s0, s1, s2⟩; go_simp; with_reducible rfl
               rotate_left; · simp only [Act.put, q1_, q2_, q3_, i64_w, i32_w]; rfl
               refine pure_ (i := 6) (N := some 256) (v := ?_) (a' := ?_) B69_ rfl rfl (by kernel_rfl) (fun _ _ _ h => h) (Or.inl ⟨by rfl, ?_⟩) ?_ ?_
               rotate_left; · intro w'; go_simp; with_reducible rfl
               rotate_left; · simp only [Act.put, q1_, q2_, q3_, i64_w, i32_w]; rfl
               refine pure_ (i := 7) (N := some 257) (v := ?_) (a' := ?_) B70_ rfl rfl (by kernel_rfl) (fun _ _ _ h => h) (Or.inl ⟨by rfl, ?_⟩) ?_ ?_
               rotate_left; · intro w'; go_simp; with_reducible rfl
               rotate_left; · simp only [Act.put, q1_, q2_, q3_, i64_w, i32_w]; rfl
               refine pure_ (i := 8) (N := some 258) (v := ?_) (a' := ?_) B71_ rfl rfl (by kernel_rfl) (fun _ _ _ h => h) (Or.inl ⟨by rfl, ?_⟩) ?_ ?_
               rotate_left; · intro w'; go_simp; with_reducible rfl
               rotate_left; · simp only [Act.put, q1_, q2_, q3_, i64_w, i32_w]; rfl
               refine pure_ (i := 9) (N := some 259) (v := ?_) (a' := ?_) B72_ rfl rfl (by kernel_rfl) (fun _ _ _ h => h) (Or.inl ⟨by rfl, ?_⟩) ?_ ?_
               rotate_left; · intro w'; go_simp; with_reducible rfl
               rotate_left; · simp only [Act.put, q1_, q2_, q3_, i64_w, i32_w]; rfl
               refine pure_ (i := 10) (N := some 260) (v := ?_) (a' := ?_) B73_ rfl rfl (by kernel_rfl) (fun _ _ _ h => h) (Or.inl ⟨by rfl, ?_⟩) ?_ ?_
               rotate_left; · intro w'; go_simp; with_reducible rfl
               rotate_left; · simp only [Act.put, q1_, q2_, q3_, i64_w, i32_w]; rfl
               refine pure_ (i := 11) (N := some 261) (v := ?_) (a' := ?_) B74_ rfl rfl (by kernel_rfl) (fun _ _ _ h => h) (Or.inl ⟨by rfl, ?_⟩) ?_ ?_
               rotate_left; · intro w'; go_simp; with_reducible rfl
               rotate_left; · simp only [Act.put, q1_, q2_, q3_, i64_w, i32_w]; rfl
               refine pure_ (i := 12) (N := some 262) (v := ?_) (a' := ?_) B75_ rfl rfl (by kernel_rfl) (fun _ _ _ h => h) (Or.inl ⟨by rfl, ?_⟩) ?_ ?_
               rotate_left; · intro w'; go_simp; with_reducible rfl
               rotate_left; · simp only [Act.put, q1_, q2_, q3_, i64_w, i32_w]; rfl
               refine pure_ (i := 13) (N := some 263) (v := ?_) (a' := ?_) B76_ rfl rfl (by kernel_rfl) (fun _ _ _ h => h) (Or.inl ⟨by rfl, ?_⟩) ?_ ?_
               rotate_left; · intro w'; go_simp; with_reducible rfl
               rotate_left; · simp only [Act.put, q1_, q2_, q3_, i64_w, i32_w]; rfl
               refine pure_ (i := 14) (N := some 264) (v := ?_) (a' := ?_) B77_ rfl rfl (by kernel_rfl) (fun _ _ _ h => h) (Or.inl ⟨by rfl, ?_⟩) ?_ ?_
               rotate_left; · intro w'; go_simp; with_reducible rfl
               rotate_left; · simp only [Act.put, q1_, q2_, q3_, i64_w, i32_w]; rfl
               refine pure_ (i := 15) (N := some 265) (v := ?_) (a' := ?_) B78_ rfl rfl (by kernel_rfl) (fun _ _ _ h => h) (Or.inl ⟨by rfl, ?_⟩) ?_ ?_
               rotate_left; · intro w'; go_simp; with_reducible rfl
               rotate_left; · simp only [Act.put, q1_, q2_, q3_, i64_w, i32_w]; rfl
               refine pure_ (i := 16) (N := some 266) (v := ?_) (a' := ?_) B79_ rfl rfl (by kernel_rfl) (fun _ _ _ h => h) (Or.inl ⟨by rfl, ?_⟩) ?_ ?_
               rotate_left; · intro w'; go_simp; with_reducible rfl
               rotate_left; · simp only [Act.put, q1_, q2_, q3_, i64_w, i32_w]; rfl
               refine take_ (i := 17) (N := some 267) (v := ?_) (a' := ?_) B80_ rfl rfl (by kernel_rfl) (fun _ _ _ h => h) (Or.inl ⟨by rfl, ?_⟩) hHeld ?_ ?_
               rotate_left; · rintro w' ⟨s0, s1, s2⟩; go_simp; with_reducible rfl
               rotate_left; · simp only [Act.put, q1_, q2_, q3_, i64_w, i32_w]; rfl
               refine pure_ (i := 18) (N := some 268) (v := ?_) (a' := ?_) B81_ rfl rfl (by kernel_rfl) (fun _ _ _ h => h) (Or.inl ⟨by rfl, ?_⟩) ?_ ?_
               rotate_left; · intro w'; go_simp; with_reducible rfl
               rotate_left; · simp only [Act.put, q1_, q2_, q3_, i64_w, i32_w]; rfl
               refine pure_ (i := 19) (N := some 269) (v := ?_) (a' := ?_) B82_ rfl rfl (by kernel_rfl) (fun _ _ _ h => h) (Or.inl ⟨by rfl, ?_⟩) ?_ ?_
               rotate_left; · intro w'; go_simp; with_reducible rfl
               rotate_left; · simp only [Act.put, q1_, q2_, q3_, i64_w, i32_w]; rfl
               refine pure_ (i := 20) (N := some 270) (v := ?_) (a' := ?_) B83_ rfl rfl (by kernel_rfl) (fun _ _ _ h => h) (Or.inl ⟨by rfl, ?_⟩) ?_ ?_
               rotate_left; · intro w'; go_simp; with_reducible rfl
               rotate_left; · simp only [Act.put, q1_, q2_, q3_, i64_w, i32_w]; rfl
               refine pure_ (i := 21) (N := some 271) (v := ?_) (a' := ?_) B84_ rfl rfl (by kernel_rfl) (fun _ _ _ h => h) (Or.inl ⟨by rfl, ?_⟩) ?_ ?_
               rotate_left; · intro w'; go_simp; with_reducible rfl
               rotate_left; · simp only [Act.put, q1_, q2_, q3_, i64_w, i32_w]; rfl
               refine pure_ (i := 22) (N := some 272) (v := ?_) (a' := ?_) B85_ rfl rfl (by kernel_rfl) (fun _ _ _ h => h) (Or.inl ⟨by rfl, ?_⟩) ?_ ?_
               rotate_left; · intro w'; go_simp; with_reducible rfl
               rotate_left; · simp only [Act.put, q1_, q2_, q3_, i64_w, i32_w]; rfl
               refine pure_ (i := 23) (N := some 273) (v := ?_) (a' := ?_) B86_ rfl rfl (by kernel_rfl) (fun _ _ _ h => h) (Or.inl ⟨by rfl, ?_⟩) ?_ ?_
               rotate_left; · intro w'; go_simp; with_reducible rfl
               rotate_left; · simp only [Act.put, q1_, q2_, q3_, i64_w, i32_w]; rfl
               refine pure_ (i := 24) (N := some 274) (v := ?_) (a' := ?_) B87_ rfl rfl (by kernel_rfl) (fun _ _ _ h => h) (Or.inl ⟨by rfl, ?_⟩) ?_ ?_
               rotate_left; · intro w'; go_simp; with_reducible rfl
               rotate_left; · simp only [Act.put, q1_, q2_, q3_, i64_w, i32_w]; rfl
               refine pure_ (i := 25) (N := some 275) (v := undef) (a' := ?_) B88_ rfl rfl (by kernel_rfl) (fun _ _ _ h => h) (Or.inr ⟨by rfl, rfl⟩) ?_ ?_
               rotate_left; · simp only [Act.put, q1_, q2_, q3_, i64_w, i32_w]; rfl
               refine pure_ (i := 26) (N := some 276) (v := undef) (a' := ?_) B89_ rfl rfl (by kernel_rfl) (fun _ _ _ h => h) (Or.inr ⟨by rfl, rfl⟩) ?_ ?_
               rotate_left; · simp only [Act.put, q1_, q2_, q3_, i64_w, i32_w]; rfl
               refine pure_ (i := 27) (N := some 277) (v := undef) (a' := ?_) B90_ rfl rfl (by kernel_rfl) (fun _ _ _ h => h) (Or.inr ⟨by rfl, rfl⟩) ?_ ?_
               rotate_left; · simp only [Act.put, q1_, q2_, q3_, i64_w, i32_w]; rfl
               refine pure_ (i := 28) (N := some 278) (v := undef) (a' := ?_) B91_ rfl rfl (by kernel_rfl) (fun _ _ _ h => h) (Or.inr ⟨by rfl, rfl⟩) ?_ ?_
               rotate_left; · simp only [Act.put, q1_, q2_, q3_, i64_w, i32_w]; rfl
               refine pure_ (i := 29) (N := some 279) (v := undef) (a' := ?_) B92_ rfl rfl (by kernel_rfl) (fun _ _ _ h => h) (Or.inr ⟨by rfl, rfl⟩) ?_ ?_
               rotate_left; · simp only [Act.put, q1_, q2_, q3_, i64_w, i32_w]; rfl
               refine pure_ (i := 30) (N := some 280) (v := ?_) (a' := ?_) B93_ rfl rfl (by kernel_rfl) (fun _ _ _ h => h) (Or.inl ⟨by rfl, ?_⟩) ?_ ?_
               rotate_left; · intro w'; go_simp; with_reducible rfl
               rotate_left; · simp only [Act.put, q1_, q2_, q3_, i64_w, i32_w]; rfl
               refine pure_ (i := 31) (N := some 281) (v := ?_) (a' := ?_) B94_ rfl rfl (by kernel_rfl) (fun _ _ _ h => h) (Or.inl ⟨by rfl, ?_⟩) ?_ ?_
               rotate_left; · intro w'; go_simp; with_reducible rfl
               rotate_left; · simp only [Act.put, q1_, q2_, q3_, i64_w, i32_w]; rfl
               refine pure_ (i := 32) (N := some 282) (v := ?_) (a' := ?_) B95_ rfl rfl (by kernel_rfl) (fun _ _ _ h => h) (Or.inl ⟨by rfl, ?_⟩) ?_ ?_
               rotate_left; · intro w'; go_simp; with_reducible rfl
               rotate_left; · simp only [Act.put, q1_, q2_, q3_, i64_w, i32_w]; rfl
               refine last_ (i := 33) (N := none) B96_ rfl rfl (by kernel_rfl) (by decide) (fun K hK => ?_)
               refine skip_ (w1 := ?_) (by rfl) rfl ?_ ?_
               rotate_left
               ·
                go_simp
                rfl
               refine hK.out _ _ ?_
               clear hK K
               refine done_ (by kernel_rfl) ?_
               have HM9 := Aside0.mk (HM.out.stPut k false).drew
               have KG9 : Aside0 ((wr.setCell ⟨gt, k, none⟩ (.bool false)).drew.heap[gG]? = some (.cells #[.bool gr] 4 (0, 0))) := ⟨blk_far (p := ⟨gt, k, none⟩) KG.out (by have h1 := NT.out; have h2 := GG.out; show gG ≠ gt; omega) (.bool false)⟩
               have KB9 := Aside0.mk (Kd.R_below (Kd.R_far (p := ⟨gt, k, none⟩) KB.out (fun q hq => by have h1 := NT.out; have h2 := GG.out; have h3 := GB.out; have h4 : w13.heap.size ≤ q := hq; show q ≠ gt; omega) (.bool false)) (below_drew1b (Below.refl _ _)))
               clear ct_ ft_ cb_ HMd KGd KBd HM KG KB
               generalize (wr.setCell ⟨gt, k, none⟩ (.bool false)).drew = w9 at HM9 KG9 KB9 ⊢
               go_wp2_with fail
               go_roundw
               case rel => exact ⟨k + 1, by omega, by go_num, ⟨by rw [HS.out]; exact HM9.out⟩, KG9, KB9⟩
               case measure => simp [intOf]; omega
             have e1 : decide (0 < al) = false := decide_eq_false h1
             have e2 : decide (al < 0) = true := decide_eq_true (by omega)
             clear h0 h1
             have e1_ : decide (al > 0) = false := e1
             by_cases h2 : bk < 0
             ·
              have e3 : decide (bk < 0) = true := decide_eq_true h2
              clear h2
              as_aux_lemma =>
               have HV : Aside0 (setR al bk false = true) := ⟨by unfold setR; rw [e0, e1_, e2, e3]; rfl⟩
               rw [HV.out] at HS
               clear HV
               refine start_ (n := 34) (S := fun w' => w'.cell? ⟨g8, 0, none⟩ = some (.slice (some ⟨gt, 0, none⟩) n c5) ∧ w'.cell? ⟨gt, k, none⟩ = some (.bool false) ∧ w'.cell? ⟨gb, k, none⟩ = some (.int .i64 bk)) (ds := [33]) B62_ (by kernel_rfl) rfl rfl ⟨HMd.out.cT, ct_, cb_⟩ (fun hHeld => ?_)
               refine pure_ (i := 1) (N := some 251) (v := ?_) (a' := ?_) B63_ rfl rfl (by kernel_rfl) (fun _ _ _ h => h) (Or.inl ⟨by rfl, ?_⟩) ?_ ?_
               rotate_left; · intro w'; go_simp; with_reducible rfl
               rotate_left; · simp only [Act.put, q1_, q2_, q3_, i64_w, i32_w]; rfl
               refine pure_ (i := 3) (N := some 253) (v := ?_) (a' := ?_) B64_ rfl rfl (by kernel_rfl) (fun _ _ _ h => h) (Or.inl ⟨by rfl, ?_⟩) ?_ ?_
               rotate_left; · intro w'; go_simp; with_reducible rfl
               rotate_left; · simp only [Act.put, q1_, q2_, q3_, i64_w, i32_w]; rfl
               refine take_ (i := 0) (N := some 250) (v := ?_) (a' := ?_) B65_ rfl rfl (by kernel_rfl) (fun _ _ _ h => h) (Or.inl ⟨by rfl, ?_⟩) hHeld ?_ ?_
               rotate_left; · rintro w' ⟨s0, s1, s2⟩; go_simp; with_reducible rfl
               rotate_left; · simp only [Act.put, q1_, q2_, q3_, i64_w, i32_w]; rfl
               refine take_ (i := 2) (N := some 252) (v := ?_) (a' := ?_) B66_ rfl rfl (by kernel_rfl) (fun _ _ _ h => h) (Or.inl ⟨by rfl, ?_⟩) hHeld ?_ ?_
               rotate_left; · rintro w' ⟨s0, s1, s2⟩; go_simp; with_reducible rfl
               rotate_left; · simp only [Act.put, q1_, q2_, q3_, i64_w, i32_w]; rfl
               refine pure_ (i := 4) (N := some 254) (v := ?_) (a' := ?_) B67_ rfl rfl (by kernel_rfl) (fun _ _ _ h => h) (Or.inl ⟨by rfl, ?_⟩) ?_ ?_
               rotate_left; · intro w'; go_simp; with_reducible rfl
               rotate_left; · simp only [Act.put, q1_, q2_, q3_, i64_w, i32_w]; rfl
               refine take_ (i := 5) (N := some 255) (v := ?_) (a' := ?_) B68_ rfl rfl (by kernel_rfl) (fun _ _ _ h => h) (Or.inl ⟨by rfl, ?_⟩) hHeld ?_ ?_
               rotate_left; · rintro w' ⟨s0, s1, s2⟩; go_simp; with_reducible rfl
               rotate_left; · simp only [Act.put, q1_, q2_, q3_, i64_w, i32_w]; rfl
               refine pure_ (i := 6) (N := some 256) (v := ?_) (a' := ?_) B69_ rfl rfl (by kernel_rfl) (fun _ _ _ h => h) (Or.inl ⟨by rfl, ?_⟩) ?_ ?_
               rotate_left; · intro w'; go_simp; with_reducible rfl
               rotate_left; · simp only [Act.put, q1_, q2_, q3_, i64_w, i32_w]; rfl
               refine pure_ (i := 7) (N := some 257) (v := ?_) (a' := ?_) B70_ rfl rfl (by kernel_rfl) (fun _ _ _ h => h) (Or.inl ⟨by rfl, ?_⟩) ?_ ?_
               rotate_left; · intro w'; go_simp; with_reducible rfl
               rotate_left; · simp only [Act.put, q1_, q2_, q3_, i64_w, i32_w]; rfl
               refine pure_ (i := 8) (N := some 258) (v := ?_) (a' := ?_) B71_ rfl rfl (by kernel_rfl) (fun _ _ _ h => h) (Or.inl ⟨by rfl, ?_⟩) ?_ ?_
               rotate_left; · intro w'; go_simp; with_reducible rfl
               rotate_left; · simp only [Act.put, q1_, q2_, q3_, i64_w, i32_w]; rfl
               refine pure_ (i := 9) (N := some 259) (v := ?_) (a' := ?_) B72_ rfl rfl (by kernel_rfl) (fun _ _ _ h => h) (Or.inl ⟨by rfl, ?_⟩) ?_ ?_
               rotate_left; · intro w'; go_simp; with_reducible rfl
               rotate_left; · simp only [Act.put, q1_, q2_, q3_, i64_w, i32_w]; rfl
               refine pure_ (i := 10) (N := some 260) (v := ?_) (a' := ?_) B73_ rfl rfl (by kernel_rfl) (fun _ _ _ h => h) (Or.inl ⟨by rfl, ?_⟩) ?_ ?_
               rotate_left; · intro w'; go_simp; with_reducible rfl
               rotate_left; · simp only [Act.put, q1_, q2_, q3_, i64_w, i32_w]; rfl
               refine pure_ (i := 11) (N := some 261) (v := ?_) (a' := ?_) B74_ rfl rfl (by kernel_rfl) (fun _ _ _ h => h) (Or.inl ⟨by rfl, ?_⟩) ?_ ?_
               rotate_left; · intro w'; go_simp; with_reducible rfl
               rotate_left; · simp only [Act.put, q1_, q2_, q3_, i64_w, i32_w]; rfl
               refine pure_ (i := 12) (N := some 262) (v := ?_) (a' := ?_) B75_ rfl rfl (by kernel_rfl) (fun _ _ _ h => h) (Or.inl ⟨by rfl, ?_⟩) ?_ ?_
               rotate_left; · intro w'; go_simp; with_reducible rfl
               rotate_left; · simp only [Act.put, q1_, q2_, q3_, i64_w, i32_w]; rfl
               refine pure_ (i := 13) (N := some 263) (v := ?_) (a' := ?_) B76_ rfl rfl (by kernel_rfl) (fun _ _ _ h => h) (Or.inl ⟨by rfl, ?_⟩) ?_ ?_
               rotate_left; · intro w'; go_simp; with_reducible rfl
               rotate_left; · simp only [Act.put, q1_, q2_, q3_, i64_w, i32_w]; rfl
               refine pure_ (i := 14) (N := some 264) (v := undef) (a' := ?_) B77_ rfl rfl (by kernel_rfl) (fun _ _ _ h => h) (Or.inr ⟨by rfl, rfl⟩) ?_ ?_
               rotate_left; · simp only [Act.put, q1_, q2_, q3_, i64_w, i32_w]; rfl
               refine pure_ (i := 15) (N := some 265) (v := undef) (a' := ?_) B78_ rfl rfl (by kernel_rfl) (fun _ _ _ h => h) (Or.inr ⟨by rfl, rfl⟩) ?_ ?_
               rotate_left; · simp only [Act.put, q1_, q2_, q3_, i64_w, i32_w]; rfl
               refine pure_ (i := 16) (N := some 266) (v := undef) (a' := ?_) B79_ rfl rfl (by kernel_rfl) (fun _ _ _ h => h) (Or.inr ⟨by rfl, rfl⟩) ?_ ?_
               rotate_left; · simp only [Act.put, q1_, q2_, q3_, i64_w, i32_w]; rfl
               refine pure_ (i := 17) (N := some 267) (v := undef) (a' := ?_) B80_ rfl rfl (by kernel_rfl) (fun _ _ _ h => h) (Or.inr ⟨by rfl, rfl⟩) ?_ ?_
               rotate_left; · simp only [Act.put, q1_, q2_, q3_, i64_w, i32_w]; rfl
               refine pure_ (i := 18) (N := some 268) (v := undef) (a' := ?_) B81_ rfl rfl (by kernel_rfl) (fun _ _ _ h => h) (Or.inr ⟨by rfl, rfl⟩) ?_ ?_
               rotate_left; · simp only [Act.put, q1_, q2_, q3_, i64_w, i32_w]; rfl
               refine pure_ (i := 19) (N := some 269) (v := ?_) (a' := ?_) B82_ rfl rfl (by kernel_rfl) (fun _ _ _ h => h) (Or.inl ⟨by rfl, ?_⟩) ?_ ?_
               rotate_left; · intro w'; go_simp; with_reducible rfl
               rotate_left; · simp only [Act.put, q1_, q2_, q3_, i64_w, i32_w]; rfl
               refine pure_ (i := 20) (N := some 270) (v := ?_) (a' := ?_) B83_ rfl rfl (by kernel_rfl) (fun _ _ _ h => h) (Or.inl ⟨by rfl, ?_⟩) ?_ ?_
               rotate_left; · intro w'; go_simp; with_reducible rfl
               rotate_left; · simp only [Act.put, q1_, q2_, q3_, i64_w, i32_w]; rfl
               refine pure_ (i := 21) (N := some 271) (v := ?_) (a' := ?_) B84_ rfl rfl (by kernel_rfl) (fun _ _ _ h => h) (Or.inl ⟨by rfl, ?_⟩) ?_ ?_
               rotate_left; · intro w'; go_simp; with_reducible rfl
               rotate_left; · simp only [Act.put, q1_, q2_, q3_, i64_w, i32_w]; rfl
               refine pure_ (i := 22) (N := some 272) (v := ?_) (a' := ?_) B85_ rfl rfl (by kernel_rfl) (fun _ _ _ h => h) (Or.inl ⟨by rfl, ?_⟩) ?_ ?_
               rotate_left; · intro w'; go_simp; with_reducible rfl
               rotate_left; · simp only [Act.put, q1_, q2_, q3_, i64_w, i32_w]; rfl
               refine pure_ (i := 23) (N := some 273) (v := ?_) (a' := ?_) B86_ rfl rfl (by kernel_rfl) (fun _ _ _ h => h) (Or.inl ⟨by rfl, ?_⟩) ?_ ?_
               rotate_left; · intro w'; go_simp; with_reducible rfl
               rotate_left; · simp only [Act.put, q1_, q2_, q3_, i64_w, i32_w]; rfl
               refine pure_ (i := 24) (N := some 274) (v := ?_) (a' := ?_) B87_ rfl rfl (by kernel_rfl) (fun _ _ _ h => h) (Or.inl ⟨by rfl, ?_⟩) ?_ ?_
               rotate_left; · intro w'; go_simp; with_reducible rfl
               rotate_left; · simp only [Act.put, q1_, q2_, q3_, i64_w, i32_w]; rfl
               refine pure_ (i := 25) (N := some 275) (v := ?_) (a' := ?_) B88_ rfl rfl (by kernel_rfl) (fun _ _ _ h => h) (Or.inl ⟨by rfl, ?_⟩) ?_ ?_
               rotate_left; · intro w'; go_simp; with_reducible rfl
               rotate_left; · simp only [Act.put, q1_, q2_, q3_, i64_w, i32_w]; rfl
               refine pure_ (i := 26) (N := some 276) (v := ?_) (a' := ?_) B89_ rfl rfl (by kernel_rfl) (fun _ _ _ h => h) (Or.inl ⟨by rfl, ?_⟩) ?_ ?_
               rotate_left; · intro w'; go_simp; with_reducible rfl
               rotate_left; · simp only [Act.put, q1_, q2_, q3_, i64_w, i32_w]; rfl
               refine pure_ (i := 27) (N := some 277) (v := ?_) (a' := ?_) B90_ rfl rfl (by kernel_rfl) (fun _ _ _ h => h) (Or.inl ⟨by rfl, ?_⟩) ?_ ?_
               rotate_left; · intro w'; go_simp; with_reducible rfl
               rotate_left; · simp only [Act.put, q1_, q2_, q3_, i64_w, i32_w]; rfl
               refine take_ (i := 28) (N := some 278) (v := ?_) (a' := ?_) B91_ rfl rfl (by kernel_rfl) (fun _ _ _ h => h) (Or.inl ⟨by rfl, ?_⟩) hHeld ?_ ?_
               rotate_left; · rintro w' ⟨s0, s1, s2⟩; go_simp; with_reducible rfl
               rotate_left; · simp only [Act.put, q1_, q2_, q3_, i64_w, i32_w]; rfl
               refine pure_ (i := 29) (N := some 279) (v := ?_) (a' := ?_) B92_ rfl rfl (by kernel_rfl) (fun _ _ _ h => h) (Or.inl ⟨by rfl, ?_⟩) ?_ ?_
               rotate_left; · intro w'; go_simp; with_reducible rfl
               rotate_left; · simp only [Act.put, q1_, q2_, q3_, i64_w, i32_w]; rfl
               refine pure_ (i := 30) (N := some 280) (v := ?_) (a' := ?_) B93_ rfl rfl (by kernel_rfl) (fun _ _ _ h => h) (Or.inl ⟨by rfl, ?_⟩) ?_ ?_
               rotate_left; · intro w'; go_simp; with_reducible rfl
               rotate_left; · simp only [Act.put, q1_, q2_, q3_, i64_w, i32_w]; rfl
               refine pure_ (i := 31) (N := some 281) (v := ?_) (a' := ?_) B94_ rfl rfl (by kernel_rfl) (fun _ _ _ h => h) (Or.inl ⟨by rfl, ?_⟩) ?_ ?_
               rotate_left; · intro w'; go_simp; with_reducible rfl
               rotate_left; · simp only [Act.put, q1_, q2_, q3_, i64_w, i32_w]; rfl
               refine pure_ (i := 32) (N := some 282) (v := ?_) (a' := ?_) B95_ rfl rfl (by kernel_rfl) (fun _ _ _ h => h) (Or.inl ⟨by rfl, ?_⟩) ?_ ?_
               rotate_left; · intro w'; go_simp; with_reducible rfl
               rotate_left; · simp only [Act.put, q1_, q2_, q3_, i64_w, i32_w]; rfl
               refine last_ (i := 33) (N := none) B96_ rfl rfl (by kernel_rfl) (by decide) (fun K hK => ?_)
               refine skip_ (w1 := ?_) (by rfl) rfl ?_ ?_
               rotate_left
               ·
                go_simp
                rfl
               refine hK.out _ _ ?_
               clear hK K
               refine done_ (by kernel_rfl) ?_
               have HM9 := Aside0.mk (HM.out.stPut k true).drew
               have KG9 : Aside0 ((wr.setCell ⟨gt, k, none⟩ (.bool true)).drew.heap[gG]? = some (.cells #[.bool gr] 4 (0, 0))) := ⟨blk_far (p := ⟨gt, k, none⟩) KG.out (by have h1 := NT.out; have h2 := GG.out; show gG ≠ gt; omega) (.bool true)⟩
               have KB9 := Aside0.mk (Kd.R_below (Kd.R_far (p := ⟨gt, k, none⟩) KB.out (fun q hq => by have h1 := NT.out; have h2 := GG.out; have h3 := GB.out; have h4 : w13.heap.size ≤ q := hq; show q ≠ gt; omega) (.bool true)) (below_drew1b (Below.refl _ _)))
               clear ct_ ft_ cb_ HMd KGd KBd HM KG KB
               generalize (wr.setCell ⟨gt, k, none⟩ (.bool true)).drew = w9 at HM9 KG9 KB9 ⊢
               go_wp2_with fail
               go_roundw
               case rel => exact ⟨k + 1, by omega, by go_num, ⟨by rw [HS.out]; exact HM9.out⟩, KG9, KB9⟩
               case measure => simp [intOf]; omega
             have e3 : decide (bk < 0) = false := decide_eq_false h2
             clear h2
             as_aux_lemma =>
              have HV : Aside0 (setR al bk false = false) := ⟨by unfold setR; rw [e0, e1_, e2, e3]; rfl⟩
              rw [HV.out] at HS
              clear HV
              refine start_ (n := 34) (S := fun w' => w'.cell? ⟨g8, 0, none⟩ = some (.slice (some ⟨gt, 0, none⟩) n c5) ∧ w'.cell? ⟨gt, k, none⟩ = some (.bool false) ∧ w'.cell? ⟨gb, k, none⟩ = some (.int .i64 bk)) (ds := [33]) B62_ (by kernel_rfl) rfl rfl ⟨HMd.out.cT, ct_, cb_⟩ (fun hHeld => ?_)
              refine pure_ (i := 1) (N := some 251) (v := ?_) (a' := ?_) B63_ rfl rfl (by kernel_rfl) (fun _ _ _ h => h) (Or.inl ⟨by rfl, ?_⟩) ?_ ?_
              rotate_left; · intro w'; go_simp; with_reducible rfl
              rotate_left; · simp only [Act.put, q1_, q2_, q3_, i64_w, i32_w]; rfl
              refine pure_ (i := 3) (N := some 253) (v := ?_) (a' := ?_) B64_ rfl rfl (by kernel_rfl) (fun _ _ _ h => h) (Or.inl ⟨by rfl, ?_⟩) ?_ ?_
              rotate_left; · intro w'; go_simp; with_reducible rfl
              rotate_left; · simp only [Act.put, q1_, q2_, q3_, i64_w, i32_w]; rfl
              refine take_ (i := 0) (N := some 250) (v := ?_) (a' := ?_) B65_ rfl rfl (by kernel_rfl) (fun _ _ _ h => h) (Or.inl ⟨by rfl, ?_⟩) hHeld ?_ ?_
              rotate_left; · rintro w' ⟨s0, s1, s2⟩; go_simp; with_reducible rfl
              rotate_left; · simp only [Act.put, q1_, q2_, q3_, i64_w, i32_w]; rfl
              refine take_ (i := 2) (N := some 252) (v := ?_) (a' := ?_) B66_ rfl rfl (by kernel_rfl) (fun _ _ _ h => h) (Or.inl ⟨by rfl, ?_⟩) hHeld ?_ ?_
              rotate_left; · rintro w' ⟨s0, s1, s2⟩; go_simp; with_reducible rfl
              rotate_left; · simp only [Act.put, q1_, q2_, q3_, i64_w, i32_w]; rfl
              refine pure_ (i := 4) (N := some 254) (v := ?_) (a' := ?_) B67_ rfl rfl (by kernel_rfl) (fun _ _ _ h => h) (Or.inl ⟨by rfl, ?_⟩) ?_ ?_
              rotate_left; · intro w'; go_simp; with_reducible rfl
              rotate_left; · simp only [Act.put, q1_, q2_, q3_, i64_w, i32_w]; rfl
              refine take_ (i := 5) (N := some 255) (v := ?_) (a' := ?_) B68_ rfl rfl (by kernel_rfl) (fun _ _ _ h => h) (Or.inl ⟨by rfl, ?_⟩) hHeld ?_ ?_
              rotate_left; · rintro w' ⟨s0, s1, s2⟩; go_simp; with_reducible rfl
              rotate_left; · simp only [Act.put, q1_, q2_, q3_, i64_w, i32_w]; rfl
              refine pure_ (i := 6) (N := some 256) (v := ?_) (a' := ?_) B69_ rfl rfl (by kernel_rfl) (fun _ _ _ h => h) (Or.inl ⟨by rfl, ?_⟩) ?_ ?_
              rotate_left; · intro w'; go_simp; with_reducible rfl
              rotate_left; · simp only [Act.put, q1_, q2_, q3_, i64_w, i32_w]; rfl
              refine pure_ (i := 7) (N := some 257) (v := ?_) (a' := ?_) B70_ rfl rfl (by kernel_rfl) (fun _ _ _ h => h) (Or.inl ⟨by rfl, ?_⟩) ?_ ?_
              rotate_left; · intro w'; go_simp; with_reducible rfl
              rotate_left; · simp only [Act.put, q1_, q2_, q3_, i64_w, i32_w]; rfl
              refine pure_ (i := 8) (N := some 258) (v := ?_) (a' := ?_) B71_ rfl rfl (by kernel_rfl) (fun _ _ _ h => h) (Or.inl ⟨by rfl, ?_⟩) ?_ ?_
              rotate_left; · intro w'; go_simp; with_reducible rfl
              rotate_left; · simp only [Act.put, q1_, q2_, q3_, i64_w, i32_w]; rfl
              refine pure_ (i := 9) (N := some 259) (v := ?_) (a' := ?_) B72_ rfl rfl (by kernel_rfl) (fun _ _ _ h => h) (Or.inl ⟨by rfl, ?_⟩) ?_ ?_
              rotate_left; · intro w'; go_simp; with_reducible rfl
              rotate_left; · simp only [Act.put, q1_, q2_, q3_, i64_w, i32_w]; rfl
              refine pure_ (i := 10) (N := some 260) (v := ?_) (a' := ?_) B73_ rfl rfl (by kernel_rfl) (fun _ _ _ h => h) (Or.inl ⟨by rfl, ?_⟩) ?_ ?_
              rotate_left; · intro w'; go_simp; with_reducible rfl
              rotate_left; · simp only [Act.put, q1_, q2_, q3_, i64_w, i32_w]; rfl
              refine pure_ (i := 11) (N := some 261) (v := ?_) (a' := ?_) B74_ rfl rfl (by kernel_rfl) (fun _ _ _ h => h) (Or.inl ⟨by rfl, ?_⟩) ?_ ?_
              rotate_left; · intro w'; go_simp; with_reducible rfl
              rotate_left; · simp only [Act.put, q1_, q2_, q3_, i64_w, i32_w]; rfl
              refine pure_ (i := 12) (N := some 262) (v := ?_) (a' := ?_) B75_ rfl rfl (by kernel_rfl) (fun _ _ _ h => h) (Or.inl ⟨by rfl, ?_⟩) ?_ ?_
              rotate_left; · intro w'; go_simp; with_reducible rfl
              rotate_left; · simp only [Act.put, q1_, q2_, q3_, i64_w, i32_w]; rfl
              refine pure_ (i := 13) (N := some 263) (v := ?_) (a' := ?_) B76_ rfl rfl (by kernel_rfl) (fun _ _ _ h => h) (Or.inl ⟨by rfl, ?_⟩) ?_ ?_
              rotate_left; · intro w'; go_simp; with_reducible rfl
              rotate_left; · simp only [Act.put, q1_, q2_, q3_, i64_w, i32_w]; rfl
              refine pure_ (i := 14) (N := some 264) (v := undef) (a' := ?_) B77_ rfl rfl (by kernel_rfl) (fun _ _ _ h => h) (Or.inr ⟨by rfl, rfl⟩) ?_ ?_
              rotate_left; · simp only [Act.put, q1_, q2_, q3_, i64_w, i32_w]; rfl
              refine pure_ (i := 15) (N := some 265) (v := undef) (a' := ?_) B78_ rfl rfl (by kernel_rfl) (fun _ _ _ h => h) (Or.inr ⟨by rfl, rfl⟩) ?_ ?_
              rotate_left; · simp only [Act.put, q1_, q2_, q3_, i64_w, i32_w]; rfl
              refine pure_ (i := 16) (N := some 266) (v := undef) (a' := ?_) B79_ rfl rfl (by kernel_rfl) (fun _ _ _ h => h) (Or.inr ⟨by rfl, rfl⟩) ?_ ?_
              rotate_left; · simp only [Act.put, q1_, q2_, q3_, i64_w, i32_w]; rfl
              refine pure_ (i := 17) (N := some 267) (v := undef) (a' := ?_) B80_ rfl rfl (by kernel_rfl) (fun _ _ _ h => h) (Or.inr ⟨by rfl, rfl⟩) ?_ ?_
              rotate_left; · simp only [Act.put, q1_, q2_, q3_, i64_w, i32_w]; rfl
              refine pure_ (i := 18) (N := some 268) (v := undef) (a' := ?_) B81_ rfl rfl (by kernel_rfl) (fun _ _ _ h => h) (Or.inr ⟨by rfl, rfl⟩) ?_ ?_
              rotate_left; · simp only [Act.put, q1_, q2_, q3_, i64_w, i32_w]; rfl
              refine pure_ (i := 19) (N := some 269) (v := ?_) (a' := ?_) B82_ rfl rfl (by kernel_rfl) (fun _ _ _ h => h) (Or.inl ⟨by rfl, ?_⟩) ?_ ?_
              rotate_left; · intro w'; go_simp; with_reducible rfl
              rotate_left; · simp only [Act.put, q1_, q2_, q3_, i64_w, i32_w]; rfl
              refine pure_ (i := 20) (N := some 270) (v := ?_) (a' := ?_) B83_ rfl rfl (by kernel_rfl) (fun _ _ _ h => h) (Or.inl ⟨by rfl, ?_⟩) ?_ ?_
              rotate_left; · intro w'; go_simp; with_reducible rfl
              rotate_left; · simp only [Act.put, q1_, q2_, q3_, i64_w, i32_w]; rfl
              refine pure_ (i := 21) (N := some 271) (v := ?_) (a' := ?_) B84_ rfl rfl (by kernel_rfl) (fun _ _ _ h => h) (Or.inl ⟨by rfl, ?_⟩) ?_ ?_
              rotate_left; · intro w'; go_simp; with_reducible rfl
              rotate_left; · simp only [Act.put, q1_, q2_, q3_, i64_w, i32_w]; rfl
              refine pure_ (i := 22) (N := some 272) (v := ?_) (a' := ?_) B85_ rfl rfl (by kernel_rfl) (fun _ _ _ h => h) (Or.inl ⟨by rfl, ?_⟩) ?_ ?_
              rotate_left; · intro w'; go_simp; with_reducible rfl
              rotate_left; · simp only [Act.put, q1_, q2_, q3_, i64_w, i32_w]; rfl
              refine pure_ (i := 23) (N := some 273) (v := ?_) (a' := ?_) B86_ rfl rfl (by kernel_rfl) (fun _ _ _ h => h) (Or.inl ⟨by rfl, ?_⟩) ?_ ?_
              rotate_left; · intro w'; go_simp; with_reducible rfl
              rotate_left; · simp only [Act.put, q1_, q2_, q3_, i64_w, i32_w]; rfl
              refine pure_ (i := 24) (N := some 274) (v := ?_) (a' := ?_) B87_ rfl rfl (by kernel_rfl) (fun _ _ _ h => h) (Or.inl ⟨by rfl, ?_⟩) ?_ ?_
              rotate_left; · intro w'; go_simp; with_reducible rfl
              rotate_left; · simp only [Act.put, q1_, q2_, q3_, i64_w, i32_w]; rfl
              refine pure_ (i := 25) (N := some 275) (v := ?_) (a' := ?_) B88_ rfl rfl (by kernel_rfl) (fun _ _ _ h => h) (Or.inl ⟨by rfl, ?_⟩) ?_ ?_
              rotate_left; · intro w'; go_simp; with_reducible rfl
              rotate_left; · simp only [Act.put, q1_, q2_, q3_, i64_w, i32_w]; rfl
              refine pure_ (i := 26) (N := some 276) (v := ?_) (a' := ?_) B89_ rfl rfl (by kernel_rfl) (fun _ _ _ h => h) (Or.inl ⟨by rfl, ?_⟩) ?_ ?_
              rotate_left; · intro w'; go_simp; with_reducible rfl
              rotate_left; · simp only [Act.put, q1_, q2_, q3_, i64_w, i32_w]; rfl
              refine pure_ (i := 27) (N := some 277) (v := ?_) (a' := ?_) B90_ rfl rfl (by kernel_rfl) (fun _ _ _ h => h) (Or.inl ⟨by rfl, ?_⟩) ?_ ?_
              rotate_left; · intro w'; go_simp; with_reducible rfl
              rotate_left; · simp only [Act.put, q1_, q2_, q3_, i64_w, i32_w]; rfl
              refine take_ (i := 28) (N := some 278) (v := ?_) (a' := ?_) B91_ rfl rfl (by kernel_rfl) (fun _ _ _ h => h) (Or.inl ⟨by rfl, ?_⟩) hHeld ?_ ?_
              rotate_left; · rintro w' ⟨s0, s1, s2⟩; go_simp; with_reducible rfl
              rotate_left; · simp only [Act.put, q1_, q2_, q3_, i64_w, i32_w]; rfl
              refine pure_ (i := 29) (N := some 279) (v := ?_) (a' := ?_) B92_ rfl rfl (by kernel_rfl) (fun _ _ _ h => h) (Or.inl ⟨by rfl, ?_⟩) ?_ ?_
              rotate_left; · intro w'; go_simp; with_reducible rfl
              rotate_left; · simp only [Act.put, q1_, q2_, q3_, i64_w, i32_w]; rfl
              refine pure_ (i := 30) (N := some 280) (v := ?_) (a' := ?_) B93_ rfl rfl (by kernel_rfl) (fun _ _ _ h => h) (Or.inl ⟨by rfl, ?_⟩) ?_ ?_
              rotate_left; · intro w'; go_simp; with_reducible rfl
              rotate_left; · simp only [Act.put, q1_, q2_, q3_, i64_w, i32_w]; rfl
              refine pure_ (i := 31) (N := some 281) (v := ?_) (a' := ?_) B94_ rfl rfl (by kernel_rfl) (fun _ _ _ h => h) (Or.inl ⟨by rfl, ?_⟩) ?_ ?_
              rotate_left; · intro w'; go_simp; with_reducible rfl
              rotate_left; · simp only [Act.put, q1_, q2_, q3_, i64_w, i32_w]; rfl
              refine pure_ (i := 32) (N := some 282) (v := ?_) (a' := ?_) B95_ rfl rfl (by kernel_rfl) (fun _ _ _ h => h) (Or.inl ⟨by rfl, ?_⟩) ?_ ?_
              rotate_left; · intro w'; go_simp; with_reducible rfl
              rotate_left; · simp only [Act.put, q1_, q2_, q3_, i64_w, i32_w]; rfl
              refine last_ (i := 33) (N := none) B96_ rfl rfl (by kernel_rfl) (by decide) (fun K hK => ?_)
              refine skip_ (w1 := ?_) (by rfl) rfl ?_ ?_
              rotate_left
              ·
               go_simp
               rfl
              refine hK.out _ _ ?_
              clear hK K
              refine done_ (by kernel_rfl) ?_
              have HM9 := Aside0.mk (HM.out.stPut k false).drew
              have KG9 : Aside0 ((wr.setCell ⟨gt, k, none⟩ (.bool false)).drew.heap[gG]? = some (.cells #[.bool gr] 4 (0, 0))) := ⟨blk_far (p := ⟨gt, k, none⟩) KG.out (by have h1 := NT.out; have h2 := GG.out; show gG ≠ gt; omega) (.bool false)⟩
              have KB9 := Aside0.mk (Kd.R_below (Kd.R_far (p := ⟨gt, k, none⟩) KB.out (fun q hq => by have h1 := NT.out; have h2 := GG.out; have h3 := GB.out; have h4 : w13.heap.size ≤ q := hq; show q ≠ gt; omega) (.bool false)) (below_drew1b (Below.refl _ _)))
              clear ct_ ft_ cb_ HMd KGd KBd HM KG KB
              generalize (wr.setCell ⟨gt, k, none⟩ (.bool false)).drew = w9 at HM9 KG9 KB9 ⊢
              go_wp2_with fail
              go_roundw
              case rel => exact ⟨k + 1, by omega, by go_num, ⟨by rw [HS.out]; exact HM9.out⟩, KG9, KB9⟩
              case measure => simp [intOf]; omega
            skip
            as_aux_lemma =>
             have HV : Aside0 (setR al bk true = true) := ⟨by unfold setR; rfl⟩
             rw [HV.out] at HS
             clear HV
             refine start_ (n := 34) (S := fun w' => w'.cell? ⟨g8, 0, none⟩ = some (.slice (some ⟨gt, 0, none⟩) n c5) ∧ w'.cell? ⟨gt, k, none⟩ = some (.bool true) ∧ w'.cell? ⟨gb, k, none⟩ = some (.int .i64 bk)) (ds := [33]) B62_ (by kernel_rfl) rfl rfl ⟨HMd.out.cT, ct_, cb_⟩ (fun hHeld => ?_)
             refine pure_ (i := 1) (N := some 251) (v := ?_) (a' := ?_) B63_ rfl rfl (by kernel_rfl) (fun _ _ _ h => h) (Or.inl ⟨by rfl, ?_⟩) ?_ ?_
             rotate_left; · intro w'; go_simp; with_reducible rfl
             rotate_left; · simp only [Act.put, q1_, q2_, q3_, i64_w, i32_w]; rfl
             refine pure_ (i := 3) (N := some 253) (v := ?_) (a' := ?_) B64_ rfl rfl (by kernel_rfl) (fun _ _ _ h => h) (Or.inl ⟨by rfl, ?_⟩) ?_ ?_
             rotate_left; · intro w'; go_simp; with_reducible rfl
             rotate_left; · simp only [Act.put, q1_, q2_, q3_, i64_w, i32_w]; rfl
             refine take_ (i := 0) (N := some 250) (v := ?_) (a' := ?_) B65_ rfl rfl (by kernel_rfl) (fun _ _ _ h => h) (Or.inl ⟨by rfl, ?_⟩) hHeld ?_ ?_
             rotate_left; · rintro w' ⟨s0, s1, s2⟩; go_simp; with_reducible rfl
             rotate_left; · simp only [Act.put, q1_, q2_, q3_, i64_w, i32_w]; rfl
             refine take_ (i := 2) (N := some 252) (v := ?_) (a' := ?_) B66_ rfl rfl (by kernel_rfl) (fun _ _ _ h => h) (Or.inl ⟨by rfl, ?_⟩) hHeld ?_ ?_
             rotate_left; · rintro w' ⟨s0, s1, s2⟩; go_simp; with_reducible rfl
             rotate_left; · simp only [Act.put, q1_, q2_, q3_, i64_w, i32_w]; rfl
             refine pure_ (i := 4) (N := some 254) (v := ?_) (a' := ?_) B67_ rfl rfl (by kernel_rfl) (fun _ _ _ h => h) (Or.inl ⟨by rfl, ?_⟩) ?_ ?_
             rotate_left; · intro w'; go_simp; with_reducible rfl
             rotate_left; · simp only [Act.put, q1_, q2_, q3_, i64_w, i32_w]; rfl
             refine take_ (i := 5) (N := some 255) (v := ?_) (a' := ?_) B68_ rfl rfl (by kernel_rfl) (fun _ _ _ h => h) (Or.inl ⟨by rfl, ?_⟩) hHeld ?_ ?_
             rotate_left; · rintro w' ⟨s0, s1, s2⟩; go_simp; with_reducible rfl
             rotate_left; · simp only [Act.put, q1_, q2_, q3_, i64_w, i32_w]; rfl
             refine pure_ (i := 6) (N := some 256) (v := ?_) (a' := ?_) B69_ rfl rfl (by kernel_rfl) (fun _ _ _ h => h) (Or.inl ⟨by rfl, ?_⟩) ?_ ?_
             rotate_left; · intro w'; go_simp; with_reducible rfl
             rotate_left; · simp only [Act.put, q1_, q2_, q3_, i64_w, i32_w]; rfl
             refine pure_ (i := 7) (N := some 257) (v := undef) (a' := ?_) B70_ rfl rfl (by kernel_rfl) (fun _ _ _ h => h) (Or.inr ⟨by rfl, rfl⟩) ?_ ?_
             rotate_left; · simp only [Act.put, q1_, q2_, q3_, i64_w, i32_w]; rfl
             refine pure_ (i := 8) (N := some 258) (v := undef) (a' := ?_) B71_ rfl rfl (by kernel_rfl) (fun _ _ _ h => h) (Or.inr ⟨by rfl, rfl⟩) ?_ ?_
             rotate_left; · simp only [Act.put, q1_, q2_, q3_, i64_w, i32_w]; rfl
             refine pure_ (i := 9) (N := some 259) (v := ?_) (a' := ?_) B72_ rfl rfl (by kernel_rfl) (fun _ _ _ h => h) (Or.inl ⟨by rfl, ?_⟩) ?_ ?_
             rotate_left; · intro w'; go_simp; with_reducible rfl
             rotate_left; · simp only [Act.put, q1_, q2_, q3_, i64_w, i32_w]; rfl
             refine pure_ (i := 10) (N := some 260) (v := ?_) (a' := ?_) B73_ rfl rfl (by kernel_rfl) (fun _ _ _ h => h) (Or.inl ⟨by rfl, ?_⟩) ?_ ?_
             rotate_left; · intro w'; go_simp; with_reducible rfl
             rotate_left; · simp only [Act.put, q1_, q2_, q3_, i64_w, i32_w]; rfl
             refine pure_ (i := 11) (N := some 261) (v := undef) (a' := ?_) B74_ rfl rfl (by kernel_rfl) (fun _ _ _ h => h) (Or.inr ⟨by rfl, rfl⟩) ?_ ?_
             rotate_left; · simp only [Act.put, q1_, q2_, q3_, i64_w, i32_w]; rfl
             refine pure_ (i := 12) (N := some 262) (v := undef) (a' := ?_) B75_ rfl rfl (by kernel_rfl) (fun _ _ _ h => h) (Or.inr ⟨by rfl, rfl⟩) ?_ ?_
             rotate_left; · simp only [Act.put, q1_, q2_, q3_, i64_w, i32_w]; rfl
             refine pure_ (i := 13) (N := some 263) (v := undef) (a' := ?_) B76_ rfl rfl (by kernel_rfl) (fun _ _ _ h => h) (Or.inr ⟨by rfl, rfl⟩) ?_ ?_
             rotate_left; · simp only [Act.put, q1_, q2_, q3_, i64_w, i32_w]; rfl
             refine pure_ (i := 14) (N := some 264) (v := undef) (a' := ?_) B77_ rfl rfl (by kernel_rfl) (fun _ _ _ h => h) (Or.inr ⟨by rfl, rfl⟩) ?_ ?_
             rotate_left; · simp only [Act.put, q1_, q2_, q3_, i64_w, i32_w]; rfl
             refine pure_ (i := 15) (N := some 265) (v := undef) (a' := ?_) B78_ rfl rfl (by kernel_rfl) (fun _ _ _ h => h) (Or.inr ⟨by rfl, rfl⟩) ?_ ?_
             rotate_left; · simp only [Act.put, q1_, q2_, q3_, i64_w, i32_w]; rfl
             refine pure_ (i := 16) (N := some 266) (v := undef) (a' := ?_) B79_ rfl rfl (by kernel_rfl) (fun _ _ _ h => h) (Or.inr ⟨by rfl, rfl⟩) ?_ ?_
             rotate_left; · simp only [Act.put, q1_, q2_, q3_, i64_w, i32_w]; rfl
             refine pure_ (i := 17) (N := some 267) (v := undef) (a' := ?_) B80_ rfl rfl (by kernel_rfl) (fun _ _ _ h => h) (Or.inr ⟨by rfl, rfl⟩) ?_ ?_
             rotate_left; · simp only [Act.put, q1_, q2_, q3_, i64_w, i32_w]; rfl
             refine pure_ (i := 18) (N := some 268) (v := undef) (a' := ?_) B81_ rfl rfl (by kernel_rfl) (fun _ _ _ h => h) (Or.inr ⟨by rfl, rfl⟩) ?_ ?_
             rotate_left; · simp only [Act.put, q1_, q2_, q3_, i64_w, i32_w]; rfl
             refine pure_ (i := 19) (N := some 269) (v := undef) (a' := ?_) B82_ rfl rfl (by kernel_rfl) (fun _ _ _ h => h) (Or.inr ⟨by rfl, rfl⟩) ?_ ?_
             rotate_left; · simp only [Act.put, q1_, q2_, q3_, i64_w, i32_w]; rfl
             refine pure_ (i := 20) (N := some 270) (v := ?_) (a' := ?_) B83_ rfl rfl (by kernel_rfl) (fun _ _ _ h => h) (Or.inl ⟨by rfl, ?_⟩) ?_ ?_
             rotate_left; · intro w'; go_simp; with_reducible rfl
             rotate_left; · simp only [Act.put, q1_, q2_, q3_, i64_w, i32_w]; rfl
             refine pure_ (i := 21) (N := some 271) (v := ?_) (a' := ?_) B84_ rfl rfl (by kernel_rfl) (fun _ _ _ h => h) (Or.inl ⟨by rfl, ?_⟩) ?_ ?_
             rotate_left; · intro w'; go_simp; with_reducible rfl
             rotate_left; · simp only [Act.put, q1_, q2_, q3_, i64_w, i32_w]; rfl
             refine pure_ (i := 22) (N := some 272) (v := undef) (a' := ?_) B85_ rfl rfl (by kernel_rfl) (fun _ _ _ h => h) (Or.inr ⟨by rfl, rfl⟩) ?_ ?_
             rotate_left; · simp only [Act.put, q1_, q2_, q3_, i64_w, i32_w]; rfl
             refine pure_ (i := 23) (N := some 273) (v := undef) (a' := ?_) B86_ rfl rfl (by kernel_rfl) (fun _ _ _ h => h) (Or.inr ⟨by rfl, rfl⟩) ?_ ?_
             rotate_left; · simp only [Act.put, q1_, q2_, q3_, i64_w, i32_w]; rfl
             refine pure_ (i := 24) (N := some 274) (v := undef) (a' := ?_) B87_ rfl rfl (by kernel_rfl) (fun _ _ _ h => h) (Or.inr ⟨by rfl, rfl⟩) ?_ ?_
             rotate_left; · simp only [Act.put, q1_, q2_, q3_, i64_w, i32_w]; rfl
             refine pure_ (i := 25) (N := some 275) (v := undef) (a' := ?_) B88_ rfl rfl (by kernel_rfl) (fun _ _ _ h => h) (Or.inr ⟨by rfl, rfl⟩) ?_ ?_
             rotate_left; · simp only [Act.put, q1_, q2_, q3_, i64_w, i32_w]; rfl
             refine pure_ (i := 26) (N := some 276) (v := undef) (a' := ?_) B89_ rfl rfl (by kernel_rfl) (fun _ _ _ h => h) (Or.inr ⟨by rfl, rfl⟩) ?_ ?_
             rotate_left; · simp only [Act.put, q1_, q2_, q3_, i64_w, i32_w]; rfl
             refine pure_ (i := 27) (N := some 277) (v := undef) (a' := ?_) B90_ rfl rfl (by kernel_rfl) (fun _ _ _ h => h) (Or.inr ⟨by rfl, rfl⟩) ?_ ?_
             rotate_left; · simp only [Act.put, q1_, q2_, q3_, i64_w, i32_w]; rfl
             refine pure_ (i := 28) (N := some 278) (v := undef) (a' := ?_) B91_ rfl rfl (by kernel_rfl) (fun _ _ _ h => h) (Or.inr ⟨by rfl, rfl⟩) ?_ ?_
             rotate_left; · simp only [Act.put, q1_, q2_, q3_, i64_w, i32_w]; rfl
             refine pure_ (i := 29) (N := some 279) (v := undef) (a' := ?_) B92_ rfl rfl (by kernel_rfl) (fun _ _ _ h => h) (Or.inr ⟨by rfl, rfl⟩) ?_ ?_
             rotate_left; · simp only [Act.put, q1_, q2_, q3_, i64_w, i32_w]; rfl
             refine pure_ (i := 30) (N := some 280) (v := undef) (a' := ?_) B93_ rfl rfl (by kernel_rfl) (fun _ _ _ h => h) (Or.inr ⟨by rfl, rfl⟩) ?_ ?_
             rotate_left; · simp only [Act.put, q1_, q2_, q3_, i64_w, i32_w]; rfl
             refine pure_ (i := 31) (N := some 281) (v := ?_) (a' := ?_) B94_ rfl rfl (by kernel_rfl) (fun _ _ _ h => h) (Or.inl ⟨by rfl, ?_⟩) ?_ ?_
             rotate_left; · intro w'; go_simp; with_reducible rfl
             rotate_left; · simp only [Act.put, q1_, q2_, q3_, i64_w, i32_w]; rfl
             refine pure_ (i := 32) (N := some 282) (v := ?_) (a' := ?_) B95_ rfl rfl (by kernel_rfl) (fun _ _ _ h => h) (Or.inl ⟨by rfl, ?_⟩) ?_ ?_
             rotate_left; · intro w'; go_simp; with_reducible rfl
             rotate_left; · simp only [Act.put, q1_, q2_, q3_, i64_w, i32_w]; rfl
             refine last_ (i := 33) (N := none) B96_ rfl rfl (by kernel_rfl) (by decide) (fun K hK => ?_)
             refine skip_ (w1 := ?_) (by rfl) rfl ?_ ?_
             rotate_left
             ·
              go_simp
              rfl
             refine hK.out _ _ ?_
             clear hK K
             refine done_ (by kernel_rfl) ?_
             have HM9 := Aside0.mk (HM.out.stPut k true).drew
             have KG9 : Aside0 ((wr.setCell ⟨gt, k, none⟩ (.bool true)).drew.heap[gG]? = some (.cells #[.bool gr] 4 (0, 0))) := ⟨blk_far (p := ⟨gt, k, none⟩) KG.out (by have h1 := NT.out; have h2 := GG.out; show gG ≠ gt; omega) (.bool true)⟩
             have KB9 := Aside0.mk (Kd.R_below (Kd.R_far (p := ⟨gt, k, none⟩) KB.out (fun q hq => by have h1 := NT.out; have h2 := GG.out; have h3 := GB.out; have h4 : w13.heap.size ≤ q := hq; show q ≠ gt; omega) (.bool true)) (below_drew1b (Below.refl _ _)))
             clear ct_ ft_ cb_ HMd KGd KBd HM KG KB
             generalize (wr.setCell ⟨gt, k, none⟩ (.bool true)).drew = w9 at HM9 KG9 KB9 ⊢
             go_wp2_with fail
             go_roundw
             case rel => exact ⟨k + 1, by omega, by go_num, ⟨by rw [HS.out]; exact HM9.out⟩, KG9, KB9⟩
             case measure => simp [intOf]; omega
           obtain rfl : n = k := by omega
           go_wp2_with fail
           go_roundg k1
           case measure => omega
           case rel => exact ⟨_, _, HLOP3, ⟨by have := HK1.out; omega⟩, HM, KG⟩
end Go.Proofs.Ytaejmgdpnnhpmaa.QFlex
