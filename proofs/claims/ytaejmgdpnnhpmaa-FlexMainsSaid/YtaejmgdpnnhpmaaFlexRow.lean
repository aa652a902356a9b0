/- A row of items behind a state's pointer: what the printed contracts of its methods tell, without the snapshot; its elements' fields, read and written. -/
import Derived.Test.YtaejmgdpnnhpmaaQFlexx4
import Derived.Test.YtaejmgdpnnhpmaaQFlexx5
namespace Go.Proofs.Ytaejmgdpnnhpmaa.QFlex
open Go.RowKit Go.Proofs.YtaejmgdpnnhpmaaW.PrintWords Go.Proofs.YtaejmgdpnnhpmaaW.PrintLast Go.Proofs.YtaejmgdpnnhpmaaW.PrintMore
attribute [local go_sem] max2_int min2_int max_two min_two max_three min_three max_four min_four
set_option linter.unusedVariables false
set_option linter.unusedSimpArgs false
/-- The world's blocks below g, as they are. -/
def snap (w : World) (g : Nat) : World := { w with heap := w.heap.extract 0 g }
theorem snap_size {w : World} {g : Nat} (h : g ≤ w.heap.size) : (snap w g).heap.size = g := by simp [snap, h]
theorem snap_get (w : World) (g k : Nat) (h : k < g) : (snap w g).heap[k]? = w.heap[k]? := by
  simp only [snap, Array.getElem?_extract, Nat.zero_add]
  split
  · rfl
  · symm; rw [Array.getElem?_eq_none_iff]; omega
theorem snap_below {w : World} {g : Nat} (h : g ≤ w.heap.size) : Below (snap w g).heap.size (snap w g) w :=
  ⟨rfl, rfl, rfl, by rw [snap_size h]; exact h, fun k hk => by rw [snap_size h] at hk; exact (snap_get w g k hk).symm⟩
abbrev cells96 (room : Int) (A : Option Addr) (n c : Nat) (gr : Bool) : Obj := .cells #[.int .i64 room, .slice A n c, .bool gr] 96 (0, 0)
theorem state_of {w : World} {g c base : Nat} {room : Int} {A : Option Addr} {gr : Bool} {xs : List S99} (hg : w.heap[g]? = some (cells96 room A xs.length c gr)) (hr : k99.R 99 w base (fun k => k < g) (.slice A xs.length c) xs) : IsS96 A c (snap w g) w g room xs gr := by
  have hs := blk_lt hg
  refine ⟨A, c, hg, ⟨by rw [snap_size (by omega)]; exact Nat.le_refl _, rfl, rfl⟩, ?_⟩
  exact (Kd.R_reads' (Kd.R_move (w1 := snap w g) hr (fun k hk => snap_get w g k hk))).2.2
theorem state_back {w0 w : World} {g c : Nat} {room : Int} {A : Option Addr} {gr : Bool} {xs : List S99} (h : IsS96 A c w0 w g room xs gr) : w.heap[g]? = some (cells96 room A xs.length c gr) := by
  obtain ⟨A1, c1, hb, ⟨_, rfl, rfl⟩, _⟩ := h
  exact hb
theorem below_of {w0 w w' : World} {g : Nat} {o : Obj} (h0 : Below w0.heap.size w0 w) (h1 : Below w0.heap.size w0 w') (hk : KeepBut w w' g none) (hg : w.heap[g]? = some o) (hg' : w'.heap[g]? = some o) : Below w.heap.size w w' :=
  ⟨h1.os.trans h0.os.symm, h1.tape.trans h0.tape.symm, h1.output.trans h0.output.symm, hk.1, fun k hk' => by
    by_cases e : k = g
    · rw [e, hg, hg']
    · exact hk.2 k hk' e (by simp)⟩
section
variable {g c base : Nat} {room : Int} {A : Option Addr} {gr : Bool} {xs : List S99} {w : World}
theorem now_calls (k : Nat) (n : Int) (hg : w.heap[g]? = some (cells96 room A xs.length c gr)) (hr : k99.R 99 w base (fun k => k < g) (.slice A xs.length c) xs) (h : flex_row_now.f k room xs gr = some (n, room, gr)) :
    Calls Try.prog 68 #[.pointer (some ⟨g, 0, none⟩)] w fun e w' => e = .returned (.int .i64 n) ∧ Below w.heap.size w w' := by
  have hs := snap_below (Nat.le_of_lt (blk_lt hg))
  refine (flex_row_now.calls k g room xs gr n room gr (snap w g) w (state_of hg hr) hs h).mono ?_
  rintro e w' ⟨rfl, hi, hb, hk⟩
  exact ⟨rfl, below_of hs hb hk hg (state_back hi)⟩
theorem long_calls (k : Nat) (n : Int) (hg : w.heap[g]? = some (cells96 room A xs.length c gr)) (hr : k99.R 99 w base (fun k => k < g) (.slice A xs.length c) xs) (h : flex_freeLong.f k room xs gr = some (n, room, gr)) :
    Calls Try.prog 65 #[.pointer (some ⟨g, 0, none⟩), .func (.func 66) #[] #[]] w fun e w' => e = .returned (.int .i64 n) ∧ Below w.heap.size w w' := by
  have hs := snap_below (Nat.le_of_lt (blk_lt hg))
  refine (flex_freeLong.calls k g room xs gr n room gr (snap w g) w (state_of hg hr) hs h).mono ?_
  rintro e w' ⟨rfl, hi, hb, hk⟩
  exact ⟨rfl, below_of hs hb hk hg (state_back hi)⟩
theorem parts_calls (k : Nat) (a : Int) (ps : List Int) (hg : w.heap[g]? = some (cells96 room A xs.length c gr)) (hr : k99.R 99 w base (fun k => k < g) (.slice A xs.length c) xs) (h : flex_row_parts.f k room xs gr a = some (ps, room, gr)) :
    Calls Try.prog 110 #[.pointer (some ⟨g, 0, none⟩), .int .i64 a] w fun e w' => ∃ v : Value, e = .returned v ∧ Kd.R (Kd.int .i64) 3 w' w.heap.size (fun _ => True) v ps ∧ Below w.heap.size w w' := by
  have hs := snap_below (Nat.le_of_lt (blk_lt hg))
  refine (flex_row_parts.calls k g room xs gr a ps room gr (snap w g) w (state_of hg hr) hs h).mono ?_
  rintro e w' ⟨v, rfl, hv, hi, hb, hk⟩
  exact ⟨v, rfl, hv, below_of hs hb hk hg (state_back hi)⟩
/-- An item's nine cells. -/
def enc9 (x : S99) : List Value := [.int .i64 x.f0.f0, .int .i64 x.f0.f1, .int .i64 x.f0.f2, .int .i64 x.f0.f3, .int .i64 x.f0.f4, .int .i64 x.f0.f5, .int .i64 x.f1, .bool x.f2, .int .i64 x.f3]
def facv (gr : Bool) (x : S99) : Int := if gr then x.f0.f3 else x.f0.f4
theorem factor_calls (x : S99) (hg : w.heap[g]? = some (cells96 room A xs.length c gr)) (hr : k99.R 99 w base (fun k => k < g) (.slice A xs.length c) xs) :
    Calls Try.prog 67 #[.pointer (some ⟨g, 0, none⟩), .agg (enc9 x).toArray] w fun e w' => e = .returned (.int .i64 (facv gr x)) ∧ Below w.heap.size w w' := by
  have hs := snap_below (Nat.le_of_lt (blk_lt hg))
  refine (flex_row_factor.calls g room xs gr x.f0.f0 x.f0.f1 x.f0.f2 x.f0.f3 x.f0.f4 x.f0.f5 x.f1 x.f2 x.f3 (facv gr x) room gr (snap w g) w (state_of hg hr) hs ?_).mono ?_
  · unfold flex_row_factor.f facv
    cases gr <;> rfl
  · rintro e w' ⟨rfl, hi, hb, hk⟩
    exact ⟨rfl, below_of hs hb hk hg (state_back hi)⟩
end
/-- A field of an item: read, and written. -/
theorem row_get {W : World} {base gi n cap : Nat} {ok : Nat → Prop} {xs : List S99} (HR : k99.R 99 W base ok (.slice (some ⟨gi, 0, none⟩) n cap) xs) (i : Int) (h0 : 0 ≤ i) (h1 : i < n) (j : Nat) (u : Value)
    (hu : (enc9 (rd_T99 xs i))[j]? = some u) : W.cell? ⟨gi, i.toNat * 9 + j, none⟩ = some u ∧ W.frozen? ⟨gi, i.toNat * 9 + j, none⟩ = false := by
  obtain ⟨cs, hl, hm, hc, hf⟩ := Kd.R_elem HR z99 i h0 h1
  have he := k99_openM hm
  exact ⟨hc j u (by rw [he]; exact hu), hf _⟩
theorem row_set {W : World} {base gi n cap : Nat} {ok : Nat → Prop} {xs : List S99} (HR : k99.R 99 W base ok (.slice (some ⟨gi, 0, none⟩) n cap) xs) (i : Int) (h0 : 0 ≤ i) (h1 : i < n) (j : Nat) (hj : j < 9) (u : Value) (x' : S99)
    (hx : enc9 x' = (enc9 (rd_T99 xs i)).take j ++ [u] ++ (enc9 (rd_T99 xs i)).drop (j + 1)) :
    k99.R 99 (W.setCell ⟨gi, i.toNat * 9 + j, none⟩ u) base ok (.slice (some ⟨gi, 0, none⟩) n cap) (xs.set i.toNat x') := by
  obtain ⟨cs, hl, hm, hc, hf⟩ := Kd.R_elem HR z99 i h0 h1
  have he : cs = enc9 (rd_T99 xs i) := k99_openM hm
  refine (Kd.R_seg (okp := fun _ => False) (seg := [u]) (j := j) HR i h0 h1 hl hc (by show j + 1 ≤ 9; omega) ?_ (fun _ hk => hk.elim)).1
  rw [he]
  show k99.M W base _ x' ((enc9 (rd_T99 xs i)).take j ++ [u] ++ (enc9 (rd_T99 xs i)).drop (j + 1))
  rw [← hx]
  exact k99_mkM W base _ x'
end Go.Proofs.Ytaejmgdpnnhpmaa.QFlex
