/- The state of the reference's Mains: three slices behind boxes, and what is left. -/
import Derived.Test.YtaejmgdpnnhpmaaRefClos
namespace Go.Proofs.Ytaejmgdpnnhpmaa.QFlex
open Go.RowKit Go.Proofs.YtaejmgdpnnhpmaaW.PrintWords Go.Proofs.YtaejmgdpnnhpmaaW.PrintLast Go.Proofs.YtaejmgdpnnhpmaaW.PrintMore
set_option linter.unusedVariables false
set_option linter.unusedSimpArgs false
def enc6 (x : S91) : List Value := [.int .i64 x.f0, .int .i64 x.f1, .int .i64 x.f2, .int .i64 x.f3, .int .i64 x.f4, .int .i64 x.f5]
theorem row_get91 {W : World} {base gi n cap : Nat} {ok : Nat → Prop} {xs : List S91} (HR : k91.R 91 W base ok (.slice (some ⟨gi, 0, none⟩) n cap) xs) (i : Int) (h0 : 0 ≤ i) (h1 : i < n) (j : Nat) (u : Value)
    (hu : (enc6 (rd_T91 xs i))[j]? = some u) : W.cell? ⟨gi, i.toNat * 6 + j, none⟩ = some u ∧ W.frozen? ⟨gi, i.toNat * 6 + j, none⟩ = false := by
  obtain ⟨cs, hl, hm, hc, hf⟩ := Kd.R_elem HR z91 i h0 h1
  have he := k91_openM hm
  exact ⟨hc j u (by rw [he]; exact hu), hf _⟩
theorem row_put91 {W : World} {base gi n cap : Nat} {ok : Nat → Prop} {xs : List S91} (HR : k91.R 91 W base ok (.slice (some ⟨gi, 0, none⟩) n cap) xs) (i : Int) (h0 : 0 ≤ i) (h1 : i < n) (x' : S91) :
    k91.R 91 (W.setCells gi (i.toNat * 6) (enc6 x')) base ok (.slice (some ⟨gi, 0, none⟩) n cap) (xs.set i.toNat x') := by
  obtain ⟨cs, hl, hm, hc, hf⟩ := Kd.R_elem HR z91 i h0 h1
  have he : cs = enc6 (rd_T91 xs i) := k91_openM hm
  refine (Kd.R_seg (okp := fun _ => False) (seg := enc6 x') (j := 0) HR i h0 h1 hl hc (by show 0 + 6 ≤ 6; omega) ?_ (fun _ hk => hk.elim)).1
  rw [he]
  exact k91_mkM W base _ x'
theorem there_row91 {W : World} {base gi n cap : Nat} {ok : Nat → Prop} {xs : List S91} (HR : k91.R 91 W base ok (.slice (some ⟨gi, 0, none⟩) n cap) xs) (i : Int) (h0 : 0 ≤ i) (h1 : i < n) : W.there gi (i.toNat * 6) 6 := by
  intro j hj
  have hlen : (enc6 (rd_T91 xs i)).length = 6 := rfl
  have hu : (enc6 (rd_T91 xs i))[j]? = some ((enc6 (rd_T91 xs i))[j]'(by rw [hlen]; exact hj)) := List.getElem?_eq_getElem _
  obtain ⟨h1, h2⟩ := row_get91 HR i h0 h1 j _ hu
  exact ⟨by rw [h1]; rfl, h2⟩
theorem store_run_at {P : Program} {oi : Oper} {a : Act} {w : World} (ty : TypeId) (x y : Operand) (g q : Nat) (cells : Array Value) (ho : oi.op = .store ty x y) (hx : a.eval x = .pointer (some ⟨g, q, none⟩)) (hy : a.eval y = .agg cells)
    (ht : w.there g q cells.size) (hi : (P.info? ty).map (·.size) = some cells.size) (h1 : cells.all (·.oneCell') = true) : (execOp a.eval oi).run P w = .ok .skip (w.setCells g q cells.toList) := by
  unfold execOp
  simp only [ho, hx, hy, Instr.storeAt, Instr.sureAddr, Sem.run_bind, Sem.run_pure, Result.andThen_ok, run_storeVar_mid w g q ty cells ht hi h1]
theorem Rfar_ty {α : Type} {d : Kd α} {e base : Nat} {ok : Nat → Prop} {w : World} {v : Value} {xs : List α} (h : d.R e w base ok v xs) (hE : d.E = []) {p : Addr} {cells : Array Value} {t : Nat} (hb : w.heap[p.block]? = some (.cells cells t (0, 0))) (ht : e ≠ t) (u : Value) :
    d.R e (w.setCell p u) base ok v xs := Kd.R_mono (Kd.R_far (Kd.R_far1 h hE (Kd.R_ne h hb ht)) (fun k hk => hk.2) u) (fun k hk => hk.1)
theorem Rsets_ty {α : Type} {d : Kd α} {e base : Nat} {ok : Nat → Prop} {w : World} {v : Value} {xs : List α} (h : d.R e w base ok v xs) (hE : d.E = []) {g q : Nat} {cells : Array Value} {t : Nat} (hb : w.heap[g]? = some (.cells cells t (0, 0))) (ht : e ≠ t) (vs : List Value) :
    d.R e (w.setCells g q vs) base ok v xs := Kd.R_mono (Kd.R_step (Kd.R_far1 h hE (Kd.R_ne h hb ht)) (fun k hk _ => sets_far hk.2 vs q w)) (fun k hk => hk.1)
theorem ne_ty {w : World} {g h : Nat} {c d : Array Value} {s t : Nat} (hg : w.heap[g]? = some (.cells c s (0, 0))) (hh : w.heap[h]? = some (.cells d t (0, 0))) (hne : s ≠ t) : g ≠ h := by
  intro e
  subst e
  rw [hg] at hh
  cases hh
  exact hne rfl
structure RM (w W : World) (gL g6 g7 g8 : Nat) (A1 A3 A5 : Option Addr) (c1 c3 c5 n : Nat) (L : Int) (X : List S91) (Y : List Int) (Z : List Bool) : Prop where
  KL : W.heap[gL]? = some (.cells #[.int .i64 L] 3 (0, 0))
  KI : W.heap[g6]? = some (.cells #[.slice A1 n c1] 49 (0, 0))
  KS : W.heap[g7]? = some (.cells #[.slice A3 n c3] 51 (0, 0))
  KT : W.heap[g8]? = some (.cells #[.slice A5 n c5] 105 (0, 0))
  RI : k91.R 91 W w.heap.size (fun q => q < gL) (.slice A1 n c1) X
  RS : Kd.R (Kd.int .i64) 3 W w.heap.size (fun q => q < gL) (.slice A3 n c3) Y
  RT : Kd.R Kd.bool 4 W w.heap.size (fun q => q < gL) (.slice A5 n c5) Z
  GL : w.heap.size ≤ gL
  HB : Below w.heap.size w W
section
variable {w W W' : World} {gL g6 g7 g8 : Nat} {A1 A3 A5 : Option Addr} {c1 c3 c5 n : Nat} {L : Int} {X : List S91} {Y : List Int} {Z : List Bool}
theorem RM.below (h : RM w W gL g6 g7 g8 A1 A3 A5 c1 c3 c5 n L X Y Z) (hb : Below W.heap.size W W') : RM w W' gL g6 g7 g8 A1 A3 A5 c1 c3 c5 n L X Y Z :=
  ⟨blk_below h.KL hb, blk_below h.KI hb, blk_below h.KS hb, blk_below h.KT hb, Kd.R_below h.RI hb, Kd.R_below h.RS hb, Kd.R_below h.RT hb, h.GL, below_step h.HB hb⟩
theorem RM.drew (h : RM w W gL g6 g7 g8 A1 A3 A5 c1 c3 c5 n L X Y Z) : RM w W.drew gL g6 g7 g8 A1 A3 A5 c1 c3 c5 n L X Y Z := h.below (below_drew1b (Below.refl _ _))
theorem RM.left (h : RM w W gL g6 g7 g8 A1 A3 A5 c1 c3 c5 n L X Y Z) (v : Int) : RM w (W.setCell ⟨gL, 0, none⟩ (.int .i64 v)) gL g6 g7 g8 A1 A3 A5 c1 c3 c5 n v X Y Z :=
  ⟨blk_put h.KL 0 (.int .i64 v) rfl, blk_far (p := ⟨gL, 0, none⟩) h.KI (ne_ty h.KI h.KL (by decide)) _, blk_far (p := ⟨gL, 0, none⟩) h.KS (ne_ty h.KS h.KL (by decide)) _, blk_far (p := ⟨gL, 0, none⟩) h.KT (ne_ty h.KT h.KL (by decide)) _,
    Kd.R_far (p := ⟨gL, 0, none⟩) h.RI (fun q hq => by show q ≠ gL; omega) _, Kd.R_far (p := ⟨gL, 0, none⟩) h.RS (fun q hq => by show q ≠ gL; omega) _, Kd.R_far (p := ⟨gL, 0, none⟩) h.RT (fun q hq => by show q ≠ gL; omega) _, h.GL, h.HB.setCell (p := ⟨gL, 0, none⟩) h.GL _⟩
theorem RM.item {gi : Nat} (h : RM w W gL g6 g7 g8 (some ⟨gi, 0, none⟩) A3 A5 c1 c3 c5 n L X Y Z) (i : Nat) (hi : i < n) (x' : S91) : RM w (W.setCells gi (i * 6) (enc6 x')) gL g6 g7 g8 (some ⟨gi, 0, none⟩) A3 A5 c1 c3 c5 n L (X.set i x') Y Z := by
  obtain ⟨cc, hcc⟩ := Kd.R_typed h.RI gi rfl
  have hlt : gi < gL := h.RI.1 gi rfl
  refine ⟨(sets_far (by omega) _ _ _).trans h.KL, (sets_far (ne_ty h.KI hcc (by decide)) _ _ _).trans h.KI, (sets_far (ne_ty h.KS hcc (by decide)) _ _ _).trans h.KS, (sets_far (ne_ty h.KT hcc (by decide)) _ _ _).trans h.KT, ?_, Rsets_ty h.RS rfl hcc (by decide) _, Rsets_ty h.RT rfl hcc (by decide) _, h.GL, sets_below (Kd.R_base h.RI gi rfl) _ _ _ h.HB⟩
  have := row_put91 h.RI (i : Int) (by omega) (by omega) x'
  simp only [Int.toNat_natCast] at this
  exact this
theorem RM.isPut {gs : Nat} (h : RM w W gL g6 g7 g8 A1 (some ⟨gs, 0, none⟩) A5 c1 c3 c5 n L X Y Z) (i : Nat) (v : Int) : RM w (W.setCell ⟨gs, i, none⟩ (.int .i64 v)) gL g6 g7 g8 A1 (some ⟨gs, 0, none⟩) A5 c1 c3 c5 n L X (Y.set i v) Z := by
  obtain ⟨cc, hcc⟩ := Kd.R_typed h.RS gs rfl
  have hlt : gs < gL := h.RS.1 gs rfl
  refine ⟨blk_far (p := ⟨gs, i, none⟩) h.KL (by show gL ≠ gs; omega) _, blk_far (p := ⟨gs, i, none⟩) h.KI (ne_ty h.KI hcc (by decide)) _, blk_far (p := ⟨gs, i, none⟩) h.KS (ne_ty h.KS hcc (by decide)) _, blk_far (p := ⟨gs, i, none⟩) h.KT (ne_ty h.KT hcc (by decide)) _, Rfar_ty (p := ⟨gs, i, none⟩) h.RI rfl hcc (by decide) _, ?_, Rfar_ty (p := ⟨gs, i, none⟩) h.RT rfl hcc (by decide) _, h.GL, h.HB.setCell (p := ⟨gs, i, none⟩) (Kd.R_base h.RS gs rfl) _⟩
  have := Kd.R_putn h.RS (i : Int) v
  simp only [Int.toNat_natCast] at this
  exact this
theorem RM.stPut {gt : Nat} (h : RM w W gL g6 g7 g8 A1 A3 (some ⟨gt, 0, none⟩) c1 c3 c5 n L X Y Z) (i : Nat) (v : Bool) : RM w (W.setCell ⟨gt, i, none⟩ (.bool v)) gL g6 g7 g8 A1 A3 (some ⟨gt, 0, none⟩) c1 c3 c5 n L X Y (Z.set i v) := by
  obtain ⟨cc, hcc⟩ := Kd.R_typed h.RT gt rfl
  have hlt : gt < gL := h.RT.1 gt rfl
  refine ⟨blk_far (p := ⟨gt, i, none⟩) h.KL (by show gL ≠ gt; omega) _, blk_far (p := ⟨gt, i, none⟩) h.KI (ne_ty h.KI hcc (by decide)) _, blk_far (p := ⟨gt, i, none⟩) h.KS (ne_ty h.KS hcc (by decide)) _, blk_far (p := ⟨gt, i, none⟩) h.KT (ne_ty h.KT hcc (by decide)) _, Rfar_ty (p := ⟨gt, i, none⟩) h.RI rfl hcc (by decide) _, Rfar_ty (p := ⟨gt, i, none⟩) h.RS rfl hcc (by decide) _, ?_, h.GL, h.HB.setCell (p := ⟨gt, i, none⟩) (Kd.R_base h.RT gt rfl) _⟩
  have := Kd.R_putn h.RT (i : Int) v
  simp only [Int.toNat_natCast] at this
  exact this
theorem RM.far {g t : Nat} {cells : Array Value} (h : RM w W gL g6 g7 g8 A1 A3 A5 c1 c3 c5 n L X Y Z) (hlt : gL < g) (hg : W.heap[g]? = some (.cells cells t (0, 0))) (h1 : 49 ≠ t) (h2 : 51 ≠ t) (h3 : 105 ≠ t) (j : Nat) (u : Value) : RM w (W.setCell ⟨g, j, none⟩ u) gL g6 g7 g8 A1 A3 A5 c1 c3 c5 n L X Y Z :=
  ⟨blk_far (p := ⟨g, j, none⟩) h.KL (by show gL ≠ g; omega) _, blk_far (p := ⟨g, j, none⟩) h.KI (ne_ty h.KI hg h1) _, blk_far (p := ⟨g, j, none⟩) h.KS (ne_ty h.KS hg h2) _, blk_far (p := ⟨g, j, none⟩) h.KT (ne_ty h.KT hg h3) _,
    Kd.R_far (p := ⟨g, j, none⟩) h.RI (fun q hq => by show q ≠ g; omega) _, Kd.R_far (p := ⟨g, j, none⟩) h.RS (fun q hq => by show q ≠ g; omega) _, Kd.R_far (p := ⟨g, j, none⟩) h.RT (fun q hq => by show q ≠ g; omega) _, h.GL, h.HB.setCell (p := ⟨g, j, none⟩) (by have := h.GL; show w.heap.size ≤ g; omega) _⟩
theorem RM.grown {row : Option Nat} (h : RM w W gL g6 g7 g8 A1 A3 A5 c1 c3 c5 n L X Y Z) (hg : W.grownBy W' row) (hb : Below w.heap.size w W') (h0 : ∀ k, row = some k → gL < k) (h1 : some g6 ≠ row) (h2 : some g7 ≠ row) (h3 : some g8 ≠ row) : RM w W' gL g6 g7 g8 A1 A3 A5 c1 c3 c5 n L X Y Z :=
  have hk : ∀ k, k < gL → some k ≠ row := fun k hk e => by have := h0 k e.symm; omega
  ⟨blk_grown h.KL hg (fun e => by have := h0 gL e.symm; omega), blk_grown h.KI hg h1, blk_grown h.KS hg h2, blk_grown h.KT hg h3, Kd.R_grown h.RI hg hk, Kd.R_grown h.RS hg hk, Kd.R_grown h.RT hg hk, h.GL, hb⟩
theorem take_ints (Y : List Int) (k : Nat) (h : k < Y.length) : (Y.take (k + 1)).map (fun x => mx 0 x) = (Y.take k).map (fun x => mx 0 x) ++ [mx 0 (rd Y (k : Int))] := by
  rw [List.take_succ_eq_append_getElem h, List.map_append]
  congr 1
  show [mx 0 (Y[k])] = [mx 0 (Y.getD (k : Int).toNat 0)]
  rw [Int.toNat_natCast, List.getD_eq_getElem?_getD, List.getElem?_eq_getElem h]
  rfl
/-- The three slices lie in blocks, if there are items. -/
theorem RM.forms (h : RM w W gL g6 g7 g8 A1 A3 A5 c1 c3 c5 n L X Y Z) (hn : 0 < n) : ∃ gi gs gt, A1 = some ⟨gi, 0, none⟩ ∧ A3 = some ⟨gs, 0, none⟩ ∧ A5 = some ⟨gt, 0, none⟩ := by
  have l1 := (Kd.R_reads' h.RI).1
  have l2 := (Kd.R_reads' h.RS).1
  have l3 := (Kd.R_reads' h.RT).1
  obtain ⟨gi, _, h1, _⟩ := Kd.R_form h.RI (by omega)
  obtain ⟨gs, _, h2, _⟩ := Kd.R_form h.RS (by omega)
  obtain ⟨gt, _, h3, _⟩ := Kd.R_form h.RT (by omega)
  injection h1 with h1
  injection h2 with h2
  injection h3 with h3
  exact ⟨gi, gs, gt, h1, h2, h3⟩
theorem RM.free_calls (h : RM w W gL g6 g7 g8 A1 A3 A5 c1 c3 c5 n L X Y Z) (hn : n ≤ 50) :
    Calls Try.prog 76 #[.pointer (some ⟨gL, 0, none⟩), .pointer (some ⟨g6, 0, none⟩), .pointer (some ⟨g8, 0, none⟩), .pointer (some ⟨g7, 0, none⟩)] W fun e w' => e = .returned (.int .i64 (freeN L X Y Z n)) ∧ Below W.heap.size W w' := by
  obtain ⟨l1, _, r1⟩ := Kd.R_reads' h.RI
  obtain ⟨l2, _, r2⟩ := Kd.R_reads' h.RS
  obtain ⟨l3, _, r3⟩ := Kd.R_reads' h.RT
  rw [← l1] at r1
  rw [← l2] at r2
  rw [← l3] at r3
  exact Go.Proofs.Ytaejmgdpnnhpmaa.QFlex.free_calls gL g6 g8 g7 L X Y Z A1 A5 A3 c1 c5 c3 n W h.KL h.KI h.KT h.KS r1 r3 r2 hn
theorem RM.cL (h : RM w W gL g6 g7 g8 A1 A3 A5 c1 c3 c5 n L X Y Z) : W.cell? ⟨gL, 0, none⟩ = some (.int .i64 L) := (blk_cell h.KL 0).trans rfl
theorem RM.cI (h : RM w W gL g6 g7 g8 A1 A3 A5 c1 c3 c5 n L X Y Z) : W.cell? ⟨g6, 0, none⟩ = some (.slice A1 n c1) := (blk_cell h.KI 0).trans rfl
theorem RM.cS (h : RM w W gL g6 g7 g8 A1 A3 A5 c1 c3 c5 n L X Y Z) : W.cell? ⟨g7, 0, none⟩ = some (.slice A3 n c3) := (blk_cell h.KS 0).trans rfl
theorem RM.cT (h : RM w W gL g6 g7 g8 A1 A3 A5 c1 c3 c5 n L X Y Z) : W.cell? ⟨g8, 0, none⟩ = some (.slice A5 n c5) := (blk_cell h.KT 0).trans rfl
end
end Go.Proofs.Ytaejmgdpnnhpmaa.QFlex
