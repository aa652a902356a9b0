/- Widths' bounds: bound and told, walked by hand. -/
import Derived.Test.YtaejmgdpnnhpmaaStyOf
namespace Go.Proofs.Ytaejmgdpnnhpmaa.QSty
open Go.RowKit Go.Proofs.YtaejmgdpnnhpmaaW.PrintWords Go.Proofs.YtaejmgdpnnhpmaaW.PrintLast Go.Proofs.YtaejmgdpnnhpmaaW.PrintMore
attribute [local go_sem] max2_int min2_int max_two min_two
set_option linter.unusedVariables false
set_option linter.unusedSimpArgs false
/-- Bound by the least and the most. -/
def bbound (xs : List Int) (room rim n : Int) : Int :=
  mx 0 (if (bof xs room rim 7).2 = true then mx (if (bof xs room rim 9).2 = true then mn n (bof xs room rim 9).1 else n) (bof xs room rim 7).1 else (if (bof xs room rim 9).2 = true then mn n (bof xs room rim 9).1 else n))
def btold (xs : List Int) (room rim other : Int) : Int := bbound xs room rim (if (bof xs room rim 5).2 = true then (bof xs room rim 5).1 else other)
set_option maxHeartbeats 8000000 in
set_option maxRecDepth 100000 in
theorem widths_bound.calls (xs : List Int) (room rim n : Int) (hl : xs.length = 118) (w : World) :
    Calls Try.prog 101 #[.agg (bnd xs room rim), .int .i64 n] w fun e w' => e = .returned (.int .i64 (bbound xs room rim n)) ∧ Below w.heap.size w w' := by
  have C9 := fun w => widths_of.calls xs room rim 9 hl (by omega) (by omega) w
  have C7 := fun w => widths_of.calls xs room rim 7 hl (by omega) (by omega) w
  obtain ⟨r, hr⟩ : ∃ r, bbound xs room rim n = r := ⟨_, rfl⟩
  rw [hr]
  unfold bbound at hr
  obtain ⟨m9, b9, h9⟩ : ∃ m b, bof xs room rim 9 = (m, b) := ⟨_, _, rfl⟩
  obtain ⟨m7, b7, h7⟩ : ∃ m b, bof xs room rim 7 = (m, b) := ⟨_, _, rfl⟩
  rw [h9] at C9 hr
  rw [h7] at C7 hr
  have E9 : Aside0 ((bnd xs room rim)[123]? = some (.int .i64 9)) := ⟨bnd_end hl room rim 5⟩
  have E7 : Aside0 ((bnd xs room rim)[122]? = some (.int .i64 7)) := ⟨bnd_end hl room rim 4⟩
  have hsz := bnd_size hl room rim
  obtain ⟨c, hc⟩ : ∃ c, bnd xs room rim = c := ⟨_, rfl⟩
  rw [hc] at C9 C7 E9 E7 hsz ⊢
  have K9 := Aside0.mk C9
  have K7 := Aside0.mk C7
  have HR := Aside0.mk hr
  clear C9 C7 hr hc h9 h7
  have HB := Aside0.mk (Below.refl w.heap.size w)
  cases b9 <;> cases b7
  all_goals
    go_enter Try.func101, Try.ntmps101
    go_wp2_with (first
      | ((with_reducible refine gate_dst (N := 2) rfl ?_); refine box_event rfl (N := 2) rfl (cs := c) (t := 80) (by first | (go_simp; done) | (go_simp; rfl)) ?_; intro g hg_ w1 hbx hb; have HS := Aside0.mk hbx; have HB1 := Aside0.mk (below_step HB.out hb); have z9 : w1.cell? ⟨g, 123, none⟩ = some (.int .i64 9) := (blk_cell hbx _).trans E9.out; clear hg_ hbx hb)
      | ((with_reducible refine gate_dst (N := 10) rfl ?_); refine wpList_load_row rfl 80 _ rfl g rfl 80 _ (0, 0) _ HS.out Try.underlying80 rfl (by rw [hsz]; kernel_rfl) ?_)
      | ((with_reducible refine gate_dst (N := 21) rfl ?_); refine wpList_load_row rfl 80 _ rfl g rfl 80 _ (0, 0) _ HS3.out Try.underlying80 rfl (by rw [hsz]; kernel_rfl) ?_)
      | (go_at_call 100; (with_reducible refine (K9.out _).mono ?_); rintro e w3 ⟨rfl, hb⟩; have HS3 := Aside0.mk (blk_below HS.out hb); have HB3 := Aside0.mk (below_step HB1.out hb); have z7 : w3.cell? ⟨g, 122, none⟩ = some (.int .i64 7) := (blk_cell HS3.out _).trans E7.out; clear z9 hb)
      | (go_at_call 100; (with_reducible refine (K7.out _).mono ?_); rintro e w4 ⟨rfl, hb⟩; have HB4 := Aside0.mk (below_step HB3.out hb); clear z7 hb))
    all_goals
      have e2 := HR.out
      simp only [mx, mn, if_true, if_false, reduceCtorEq, if_neg] at e2
      go_ret
      first
        | exact ⟨by rw [show r = 0 from by (repeat' split at e2) <;> omega]; rfl, HB4.out⟩
        | exact ⟨by rw [show r = n from by (repeat' split at e2) <;> omega]; rfl, HB4.out⟩
        | exact ⟨by rw [show r = m9 from by (repeat' split at e2) <;> omega]; rfl, HB4.out⟩
        | exact ⟨by rw [show r = m7 from by (repeat' split at e2) <;> omega]; rfl, HB4.out⟩
set_option maxHeartbeats 8000000 in
set_option maxRecDepth 100000 in
theorem widths_told.calls (xs : List Int) (room rim n : Int) (hl : xs.length = 118) (w : World) :
    Calls Try.prog 53 #[.agg (bnd xs room rim), .int .i64 n] w fun e w' => e = .returned (.int .i64 (btold xs room rim n)) ∧ Below w.heap.size w w' := by
  have C5 := fun w => widths_of.calls xs room rim 5 hl (by omega) (by omega) w
  have CB := fun n w => widths_bound.calls xs room rim n hl w
  unfold btold
  obtain ⟨m5, b5, h5⟩ : ∃ m b, bof xs room rim 5 = (m, b) := ⟨_, _, rfl⟩
  rw [h5] at C5 ⊢
  have E5 : Aside0 ((bnd xs room rim)[121]? = some (.int .i64 5)) := ⟨bnd_end hl room rim 3⟩
  have hsz := bnd_size hl room rim
  have CB1 : ∀ (n r : Int), bbound xs room rim n = r → ∀ w, Calls Try.prog 101 #[.agg (bnd xs room rim), .int .i64 n] w fun e w' => e = .returned (.int .i64 r) ∧ Below w.heap.size w w' := fun n r h w => h ▸ CB n w
  obtain ⟨c, hc⟩ : ∃ c, bnd xs room rim = c := ⟨_, rfl⟩
  rw [hc] at C5 CB1 E5 hsz ⊢
  have K5 := Aside0.mk C5
  have HB := Aside0.mk (Below.refl w.heap.size w)
  clear C5 CB hc h5
  cases b5
  · simp only [reduceCtorEq, if_false]
    have KB := Aside0.mk (CB1 n _ rfl)
    obtain ⟨r, hr⟩ : ∃ r, bbound xs room rim n = r := ⟨_, rfl⟩
    rw [hr] at KB ⊢
    clear CB1 hr
    go_enter Try.func53, Try.ntmps53
    go_wp2_with (first
      | ((with_reducible refine gate_dst (N := 2) rfl ?_); refine box_event rfl (N := 2) rfl (cs := c) (t := 80) (by first | (go_simp; done) | (go_simp; rfl)) ?_; intro g hg_ w1 hbx hb; have HS := Aside0.mk hbx; have HB1 := Aside0.mk (below_step HB.out hb); have z5 : w1.cell? ⟨g, 121, none⟩ = some (.int .i64 5) := (blk_cell hbx _).trans E5.out; clear hg_ hbx hb)
      | ((with_reducible refine gate_dst (N := 8) rfl ?_); refine wpList_load_row rfl 80 _ rfl g rfl 80 _ (0, 0) _ HS.out Try.underlying80 rfl (by rw [hsz]; kernel_rfl) ?_)
      | ((with_reducible refine gate_dst (N := 18) rfl ?_); refine wpList_load_row rfl 80 _ rfl g rfl 80 _ (0, 0) _ HS3.out Try.underlying80 rfl (by rw [hsz]; kernel_rfl) ?_)
      | (go_at_call 100; (with_reducible refine (K5.out _).mono ?_); rintro e w3 ⟨rfl, hb⟩; have HS3 := Aside0.mk (blk_below HS.out hb); have HB3 := Aside0.mk (below_step HB1.out hb); clear z5 hb)
      | (go_at_call 101; (with_reducible refine (KB.out _).mono ?_); rintro e w4 ⟨rfl, hb⟩; have HB4 := Aside0.mk (below_step HB3.out hb); clear hb))
    go_ret
    exact ⟨rfl, HB4.out⟩
  · simp only [if_true]
    have KB := Aside0.mk (CB1 m5 _ rfl)
    obtain ⟨r, hr⟩ : ∃ r, bbound xs room rim m5 = r := ⟨_, rfl⟩
    rw [hr] at KB ⊢
    clear CB1 hr
    go_enter Try.func53, Try.ntmps53
    go_wp2_with (first
      | ((with_reducible refine gate_dst (N := 2) rfl ?_); refine box_event rfl (N := 2) rfl (cs := c) (t := 80) (by first | (go_simp; done) | (go_simp; rfl)) ?_; intro g hg_ w1 hbx hb; have HS := Aside0.mk hbx; have HB1 := Aside0.mk (below_step HB.out hb); have z5 : w1.cell? ⟨g, 121, none⟩ = some (.int .i64 5) := (blk_cell hbx _).trans E5.out; clear hg_ hbx hb)
      | ((with_reducible refine gate_dst (N := 8) rfl ?_); refine wpList_load_row rfl 80 _ rfl g rfl 80 _ (0, 0) _ HS.out Try.underlying80 rfl (by rw [hsz]; kernel_rfl) ?_)
      | ((with_reducible refine gate_dst (N := 15) rfl ?_); refine wpList_load_row rfl 80 _ rfl g rfl 80 _ (0, 0) _ HS3.out Try.underlying80 rfl (by rw [hsz]; kernel_rfl) ?_)
      | (go_at_call 100; (with_reducible refine (K5.out _).mono ?_); rintro e w3 ⟨rfl, hb⟩; have HS3 := Aside0.mk (blk_below HS.out hb); have HB3 := Aside0.mk (below_step HB1.out hb); clear z5 hb)
      | (go_at_call 101; (with_reducible refine (KB.out _).mono ?_); rintro e w4 ⟨rfl, hb⟩; have HB4 := Aside0.mk (below_step HB3.out hb); clear hb))
    go_ret
    exact ⟨rfl, HB4.out⟩
end Go.Proofs.Ytaejmgdpnnhpmaa.QSty
