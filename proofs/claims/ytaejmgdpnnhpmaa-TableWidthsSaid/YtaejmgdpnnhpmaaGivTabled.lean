/- The closed fact tabled(): true. -/
import Derived.Test.YtaejmgdpnnhpmaaGivColumns
namespace Go.Proofs.Ytaejmgdpnnhpmaa.QTableWidths
open Go.RowKit Go.Proofs.YtaejmgdpnnhpmaaW.PrintWords Go.Proofs.YtaejmgdpnnhpmaaW.PrintLast Go.Proofs.YtaejmgdpnnhpmaaW.PrintMore
set_option linter.unusedVariables false
set_option linter.unusedSimpArgs false
def clerestorylaw3_tabled.f : Option Bool := some true
theorem eq_52 : clerestoryref3_Eq_int.f 4 [5, 2] [5, 2] = some true := by kernel_rfl
theorem eq_93 : clerestoryref3_Eq_int.f 4 [9, 3] [9, 3] = some true := by kernel_rfl
theorem row_C {W : World} {g : Nat} (h : W.heap[g]? = some (.cells #[.int .i64 5, .int .i64 9, .int .i64 1, .int .i64 2, .int .i64 3, .int .i64 1] 123 (0, 0))) : Kd.C k123 W (some ⟨g, 0, none⟩) 2 [⟨5, 9, 1⟩, ⟨2, 3, 1⟩] := by
  refine ⟨rfl, by omega, fun _ => ⟨_, rfl, fun j p hp => ?_⟩⟩
  match j, hp with
  | 0, hp =>
    obtain rfl := Option.some.inj hp
    refine ⟨_, rfl, k123_mk W _, fun i u hu => ?_⟩
    rw [Addr.add_lit, blk_cell h]
    match i, hu with
    | 0, hu => exact hu
    | 1, hu => exact hu
    | 2, hu => exact hu
    | i + 3, hu => simp at hu
  | 1, hp =>
    obtain rfl := Option.some.inj hp
    refine ⟨_, rfl, k123_mk W _, fun i u hu => ?_⟩
    rw [Addr.add_lit, blk_cell h]
    match i, hu with
    | 0, hu => exact hu
    | 1, hu => exact hu
    | 2, hu => exact hu
    | i + 3, hu => simp at hu
  | j + 2, hp => simp at hp
theorem rows_C {W : World} {g g2 : Nat} (h : W.heap[g]? = some (.cells #[.int .i64 5, .int .i64 9, .int .i64 1, .int .i64 2, .int .i64 3, .int .i64 1] 123 (0, 0))) (h2 : W.heap[g2]? = some (.cells #[.slice (some ⟨g, 0, none⟩) 2 2] 121 (0, 0))) : Kd.C (Kd.slice 123 k123) W (some ⟨g2, 0, none⟩) 1 [[⟨5, 9, 1⟩, ⟨2, 3, 1⟩]] := by
  refine ⟨rfl, by omega, fun _ => ⟨_, rfl, fun j p hp => ?_⟩⟩
  match j, hp with
  | 0, hp =>
    obtain rfl := Option.some.inj hp
    refine ⟨_, rfl, ⟨_, 2, rfl, Nat.le_refl _, row_C h⟩, fun i u hu => ?_⟩
    rw [Addr.add_lit, blk_cell h2]
    match i, hu with
    | 0, hu => exact hu
    | i + 1, hu => simp at hu
  | j + 1, hp => simp at hp
theorem ints_C {W : World} {g : Nat} {a b : Int} (h : W.heap[g]? = some (.cells #[.int .i64 a, .int .i64 b] 3 (0, 0))) : Kd.C (Kd.int .i64) W (some ⟨g, 0, none⟩) 2 [a, b] := by
  refine Kd.C_of_reads (d := (0 : Int)) (h1 := fun _ => rfl) ⟨rfl, by omega, fun _ => ⟨_, rfl, fun j hj => ?_⟩⟩
  rw [Addr.add_lit, blk_cell h]
  match j, hj with
  | 0, _ => rfl
  | 1, _ => rfl
  | j + 2, hj => omega
theorem eq_two (a b : Int) (A1 A2 : Option Addr) (c1 c2 : Nat) (w : World) (h1 : Kd.C (Kd.int .i64) w A1 2 [a, b]) (hc1 : 2 ≤ c1) (h2 : Kd.C (Kd.int .i64) w A2 2 [a, b]) (hc2 : 2 ≤ c2) (h : clerestoryref3_Eq_int.f 4 [a, b] [a, b] = some true) :
    Calls Try.prog 27 #[.slice A1 2 c1, .slice A2 2 c2] w fun e w' => e = .returned (.bool true) ∧ Below w.heap.size w w' :=
  (clerestoryref3_Eq_int.calls 4 A1 c1 [a, b] A2 c2 [a, b] true w h1 hc1 h2 hc2 h).mono (fun _ _ ⟨he, hd⟩ => ⟨he, hd.below⟩)
set_option maxHeartbeats 1600000 in
set_option maxRecDepth 100000 in
theorem clerestorylaw3_tabled.calls (r : Bool) (w : World) (h : clerestorylaw3_tabled.f = some r) :
    Calls Try.prog 36 #[] w fun e w' => e = .returned (.bool r) ∧ Below w.heap.size w w' := by
  obtain rfl := Option.some.inj h
  have HB := Aside0.mk (Below.refl w.heap.size w)
  clear h
  go_enter Try.func36, Try.ntmps36
  go_wp2_with (first
    | (go_at_call 34; (with_reducible refine (columns_calls (some ⟨w.heap.size + 1, 0, none⟩) 1 _ ?side1 ?side2).mono ?_); (case side2 => exact Nat.le_refl 1); (case side1 => exact rows_C (g := w.heap.size) (blk_below (blk_new w _) (below_alloc (Below.refl _ _) _)) (by have h := blk_new (w.alloc (Obj.cells #[.int .i64 5, .int .i64 9, .int .i64 1, .int .i64 2, .int .i64 3, .int .i64 1] 123 (0, 0))) (Obj.cells #[.slice (some ⟨w.heap.size, 0, none⟩) 2 2] 121 (0, 0)); rw [World.size_alloc] at h; exact h)); rintro e w3 ⟨v1, v2, rfl, ho1, ho2, hb⟩; have HB3 := Aside0.mk (below_step (below_alloc (below_alloc HB.out _) _) hb); obtain ⟨A1, c1, e1⟩ := Kd.R_slice ho1; subst e1; obtain ⟨A2, c2, e2⟩ := Kd.R_slice ho2; subst e2; have HC1 := Aside0.mk (Kd.R_reads' ho1).2.2; have HD1 := Aside0.mk (Kd.R_reads' ho1).2.1; have HC2 := Aside0.mk (Kd.R_reads' ho2).2.2; have HD2 := Aside0.mk (Kd.R_reads' ho2).2.1; clear ho1 ho2 hb)
    | (go_at_call 27; (with_reducible refine (eq_two 5 2 A1 (some ⟨w3.heap.size, 0, none⟩) c1 2 _ ?s1 ?s2 ?s3 ?s4 eq_52).mono ?_); (case s1 => exact Kd.C_below HC1.out (below_alloc (Below.refl _ _) _)); (case s2 => exact HD1.out); (case s3 => exact ints_C (blk_new w3 _)); (case s4 => exact Nat.le_refl 2); rintro e w4 ⟨rfl, hd⟩; have HB4 := Aside0.mk (below_step (below_alloc HB3.out _) hd); have HC4 := Aside0.mk (Kd.C_below (Kd.C_below HC2.out (below_alloc (Below.refl _ _) _)) hd); clear hd)
    | (go_at_call 27; (with_reducible refine (eq_two 9 3 A2 (some ⟨w4.heap.size, 0, none⟩) c2 2 _ ?s1 ?s2 ?s3 ?s4 eq_93).mono ?_); (case s1 => exact Kd.C_below HC4.out (below_alloc (Below.refl _ _) _)); (case s2 => exact HD2.out); (case s3 => exact ints_C (blk_new w4 _)); (case s4 => exact Nat.le_refl 2); rintro e w5 ⟨rfl, hd⟩; have HB5 := Aside0.mk (below_step (below_alloc HB4.out _) hd); clear hd))
  go_ret
  exact ⟨rfl, HB5.out⟩
end Go.Proofs.Ytaejmgdpnnhpmaa.QTableWidths
