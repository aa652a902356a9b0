/- A bound's length of a property, walked by hand. -/
import Derived.Test.YtaejmgdpnnhpmaaStyRows
namespace Go.Proofs.Ytaejmgdpnnhpmaa.QSty
open Go.RowKit Go.Proofs.YtaejmgdpnnhpmaaW.PrintWords Go.Proofs.YtaejmgdpnnhpmaaW.PrintLast Go.Proofs.YtaejmgdpnnhpmaaW.PrintMore
attribute [local go_sem] max2_int min2_int max_two min_two
set_option linter.unusedVariables false
set_option linter.unusedSimpArgs false
set_option maxHeartbeats 8000000 in
set_option maxRecDepth 100000 in
theorem widths_of.calls (xs : List Int) (room rim p : Int) (hl : xs.length = 118) (c1 : 0 ≤ p) (c2 : p < 59) (w : World) :
    Calls Try.prog 100 #[.agg (bnd xs room rim), .int .i64 p] w fun e w' => e = .returned (.tuple #[.int .i64 (bof xs room rim p).1, .bool (bof xs room rim p).2]) ∧ Below w.heap.size w w' := by
  have HC := fun w => fix_Of.calls (xs.getD (p.toNat * 2) 0) (xs.getD (p.toNat * 2 + 1) 0) room _ _ w (of_a _ _ _)
  obtain ⟨r1, r2, hr⟩ : ∃ r1 r2, bof xs room rim p = (r1, r2) := ⟨_, _, rfl⟩
  rw [hr]
  unfold bof at hr
  obtain ⟨o1, o2, ho⟩ : ∃ o1 o2, ofv (xs.getD (p.toNat * 2) 0) (xs.getD (p.toNat * 2 + 1) 0) room = (o1, o2) := ⟨_, _, rfl⟩
  rw [ho] at HC hr
  have HA := Aside0.mk (fun j hj => bnd_at hl room rim j hj)
  have E0 : Aside0 ((bnd xs room rim)[118]? = some (.int .i64 room)) := ⟨bnd_end hl room rim 0⟩
  have E1 : Aside0 ((bnd xs room rim)[119]? = some (.int .i64 rim)) := ⟨bnd_end hl room rim 1⟩
  have E2 : Aside0 ((bnd xs room rim)[120]? = some (.bool true)) := ⟨bnd_end hl room rim 2⟩
  have hsz := bnd_size hl room rim
  obtain ⟨c, hc⟩ : ∃ c, bnd xs room rim = c := ⟨_, rfl⟩
  rw [hc] at HA E0 E1 E2 hsz ⊢
  have HC' := Aside0.mk HC
  have HR := Aside0.mk hr
  have HP := Aside0.mk (And.intro c1 c2)
  obtain ⟨k, hk⟩ : ∃ k, xs.getD (p.toNat * 2) 0 = k := ⟨_, rfl⟩
  obtain ⟨n, hn⟩ : ∃ n, xs.getD (p.toNat * 2 + 1) 0 = n := ⟨_, rfl⟩
  obtain ⟨x9, h9⟩ : ∃ n, xs.getD 9 0 = n := ⟨_, rfl⟩
  have A0 : Aside0 (c[p.toNat * 2]? = some (.int .i64 k)) := ⟨by rw [HA.out _ (by omega), hk]⟩
  have A1 : Aside0 (c[p.toNat * 2 + 1]? = some (.int .i64 n)) := ⟨by rw [HA.out _ (by omega), hn]⟩
  have A9 : Aside0 (c[9]? = some (.int .i64 x9)) := ⟨by rw [HA.out _ (by omega), h9]⟩
  rw [hk, hn] at HC'
  rw [h9] at HR
  clear HC hr hc ho hk hn h9 HA
  have HB := Aside0.mk (Below.refl w.heap.size w)
  have q1 := eq_true c1
  have q2 := eq_true c2
  clear c1 c2
  go_enter Try.func100, Try.ntmps100
  go_wp2_with ((with_reducible refine gate_dst (N := 2) rfl ?_); refine box_event rfl (N := 2) rfl (cs := c) (t := 80) (by first | (go_simp; done) | (go_simp; rfl)) ?_; intro g hg_ w1 hbx hb; have HS := Aside0.mk hbx; have HB1 := Aside0.mk (below_step HB.out hb); clear hg_ hbx hb)
  have z0 : w1.cell? ⟨g, p.toNat * 2, none⟩ = some (.int .i64 k) := (blk_cell HS.out _).trans A0.out
  have z1 : w1.cell? ⟨g, p.toNat * 2 + 1, none⟩ = some (.int .i64 n) := (blk_cell HS.out _).trans A1.out
  have z2 : w1.cell? ⟨g, 118, none⟩ = some (.int .i64 room) := (blk_cell HS.out _).trans E0.out
  refine start_ (n := 12) (S := fun w' => w'.cell? ⟨g, p.toNat * 2, none⟩ = some (.int .i64 k) ∧ w'.cell? ⟨g, p.toNat * 2 + 1, none⟩ = some (.int .i64 n) ∧ w'.cell? ⟨g, 118, none⟩ = some (.int .i64 room) ∧ w'.heap[g]? = some (.cells c 80 (0, 0)) ∧ Below w.heap.size w w') (ds := []) #[false, false, false, false, false, false, false, false, false, false, false, false] (by kernel_rfl) rfl rfl ⟨z0, z1, z2, HS.out, below_drew1 HB1.out⟩ (fun hHeld => ?_)
  refine pure_ (i := 0) (N := some 9) (v := ?_) (a' := ?_) #[true, false, false, false, false, false, false, false, false, false, false, false] rfl rfl (by kernel_rfl) (fun _ _ _ h => h) (Or.inl ⟨by rfl, ?_⟩) ?_ ?_
  rotate_left
  · intro w'
    go_simp
    with_reducible rfl
  rotate_left
  · simp only [Act.put, List.setIfInBounds_toArray, List.set_cons_zero, List.set_cons_succ, i64_w, i32_w]
    rfl
  refine pure_ (i := 1) (N := some 10) (v := ?_) (a' := ?_) #[true, true, false, false, false, false, false, false, false, false, false, false] rfl rfl (by kernel_rfl) (fun _ _ _ h => h) (Or.inl ⟨by rfl, ?_⟩) ?_ ?_
  rotate_left
  · intro w'
    go_simp
    with_reducible rfl
  rotate_left
  · simp only [Act.put, List.setIfInBounds_toArray, List.set_cons_zero, List.set_cons_succ, i64_w, i32_w]
    rfl
  refine pure_ (i := 2) (N := some 11) (v := ?_) (a' := ?_) #[true, true, true, false, false, false, false, false, false, false, false, false] rfl rfl (by kernel_rfl) (fun _ _ _ h => h) (Or.inl ⟨by rfl, ?_⟩) ?_ ?_
  rotate_left
  · intro w'
    go_simp
    with_reducible rfl
  rotate_left
  · simp only [Act.put, List.setIfInBounds_toArray, List.set_cons_zero, List.set_cons_succ, i64_w, i32_w]
    rfl
  refine pure_ (i := 4) (N := some 13) (v := ?_) (a' := ?_) #[true, true, true, false, true, false, false, false, false, false, false, false] rfl rfl (by kernel_rfl) (fun _ _ _ h => h) (Or.inl ⟨by rfl, ?_⟩) ?_ ?_
  rotate_left
  · intro w'
    go_simp
    with_reducible rfl
  rotate_left
  · simp only [Act.put, List.setIfInBounds_toArray, List.set_cons_zero, List.set_cons_succ, i64_w, i32_w]
    rfl
  refine take_ (i := 3) (N := some 12) (v := ?_) (a' := ?_) #[true, true, true, true, true, false, false, false, false, false, false, false] rfl rfl (by kernel_rfl) (fun _ _ _ h => h) (Or.inl ⟨by rfl, ?_⟩) hHeld ?_ ?_
  rotate_left
  · rintro w' ⟨s0, s1, s2, s3, s4⟩
    go_simp
    with_reducible rfl
  rotate_left
  · simp only [Act.put, List.setIfInBounds_toArray, List.set_cons_zero, List.set_cons_succ, i64_w, i32_w]
    rfl
  refine take_ (i := 5) (N := some 14) (v := ?_) (a' := ?_) #[true, true, true, true, true, true, false, false, false, false, false, false] rfl rfl (by kernel_rfl) (fun _ _ _ h => h) (Or.inl ⟨by rfl, ?_⟩) hHeld ?_ ?_
  rotate_left
  · rintro w' ⟨s0, s1, s2, s3, s4⟩
    go_simp
    with_reducible rfl
  rotate_left
  · simp only [Act.put, List.setIfInBounds_toArray, List.set_cons_zero, List.set_cons_succ, i64_w, i32_w]
    rfl
  refine one_ (i := 6) (N := some 15) #[true, true, true, true, true, true, true, false, false, false, false, false] rfl rfl (by kernel_rfl) (by decide) (fun K hK => ?_)
  refine goes_ Try.func47 (by kernel_rfl) rfl #[.agg #[.int .i64 k, .int .i64 n], .int .i64 room] (by rfl) rfl rfl (by simp only [List.map_toArray, List.map_cons, List.map_nil]; rfl) ?_
  with_reducible refine (HC'.out _).mono ?_
  rintro e w3 ⟨rfl, hb⟩
  refine ⟨_, rfl, ?_⟩
  have hh : _ := blk_below hHeld.2.2.2.1 hb
  have hb2 := below_step hHeld.2.2.2.2 hb
  refine hK.out _ _ ⟨((blk_cell hh _).trans A0.out), ((blk_cell hh _).trans A1.out), ((blk_cell hh _).trans E0.out), hh, hb2⟩ (fun hHeld => ?_)
  clear hK K
  refine norm_ (a' := ?_) ?_ ?_
  rotate_left
  · show Act.put _ (some 15) _ = _
    simp only [Act.put, List.setIfInBounds_toArray, List.set_cons_zero, List.set_cons_succ, i64_w, i32_w]
    rfl
  refine pure_ (i := 7) (N := some 8) (v := ?_) (a' := ?_) #[true, true, true, true, true, true, true, true, false, false, false, false] rfl rfl (by kernel_rfl) (fun _ _ _ h => h) (Or.inl ⟨by rfl, ?_⟩) ?_ ?_
  rotate_left
  · intro w'
    go_simp
    with_reducible rfl
  rotate_left
  · simp only [Act.put, List.setIfInBounds_toArray, List.set_cons_zero, List.set_cons_succ, i64_w, i32_w]
    rfl
  refine pure_ (i := 8) (N := some 16) (v := ?_) (a' := ?_) #[true, true, true, true, true, true, true, true, true, false, false, false] rfl rfl (by kernel_rfl) (fun _ _ _ h => h) (Or.inl ⟨by rfl, ?_⟩) ?_ ?_
  rotate_left
  · intro w'
    go_simp
    with_reducible rfl
  rotate_left
  · simp only [Act.put, List.setIfInBounds_toArray, List.set_cons_zero, List.set_cons_succ, i64_w, i32_w]
    rfl
  refine pure_ (i := 9) (N := some 17) (v := ?_) (a' := ?_) #[true, true, true, true, true, true, true, true, true, true, false, false] rfl rfl (by kernel_rfl) (fun _ _ _ h => h) (Or.inl ⟨by rfl, ?_⟩) ?_ ?_
  rotate_left
  · intro w'
    go_simp
    with_reducible rfl
  rotate_left
  · simp only [Act.put, List.setIfInBounds_toArray, List.set_cons_zero, List.set_cons_succ, i64_w, i32_w]
    rfl
  refine pure_ (i := 10) (N := some 6) (v := ?_) (a' := ?_) #[true, true, true, true, true, true, true, true, true, true, true, false] rfl rfl (by kernel_rfl) (fun _ _ _ h => h) (Or.inl ⟨by rfl, ?_⟩) ?_ ?_
  rotate_left
  · intro w'
    go_simp
    with_reducible rfl
  rotate_left
  · simp only [Act.put, List.setIfInBounds_toArray, List.set_cons_zero, List.set_cons_succ, i64_w, i32_w]
    rfl
  refine pure_ (i := 11) (N := some 7) (v := ?_) (a' := ?_) #[true, true, true, true, true, true, true, true, true, true, true, true] rfl rfl (by kernel_rfl) (fun _ _ _ h => h) (Or.inl ⟨by rfl, ?_⟩) ?_ ?_
  rotate_left
  · intro w'
    go_simp
    with_reducible rfl
  rotate_left
  · simp only [Act.put, List.setIfInBounds_toArray, List.set_cons_zero, List.set_cons_succ, i64_w, i32_w]
    rfl
  refine done_ (by kernel_rfl) ?_
  clear z0 z1 z2
  have z0 : w3.cell? ⟨g, p.toNat * 2, none⟩ = some (.int .i64 k) := (blk_cell hh _).trans A0.out
  have z9 : w3.cell? ⟨g, 9, none⟩ = some (.int .i64 x9) := (blk_cell hh _).trans A9.out
  have z119 : w3.cell? ⟨g, 119, none⟩ = some (.int .i64 rim) := (blk_cell hh _).trans E1.out
  have z120 : w3.cell? ⟨g, 120, none⟩ = some (.bool true) := (blk_cell hh _).trans E2.out
  have HB5 := Aside0.mk hb2
  clear hHeld hh hb hb2 hsz
  have hr := HR.out
  cases o2
  · simp only [if_pos] at hr
    obtain ⟨rfl, rfl⟩ := Prod.mk.inj hr
    clear hr HR
    go_wp2
    go_ret2
    exact ⟨rfl, HB5.out⟩
  · rw [if_neg (by simp)] at hr
    obtain ⟨hr1, rfl⟩ := Prod.mk.inj hr
    have HR1 := Aside0.mk hr1
    clear hr HR hr1
    obtain ⟨b3, hb3⟩ : ∃ b, (k == 3) = b := ⟨_, rfl⟩
    by_cases h9 : x9 = 1
    · have hb9 : (x9 == 1) = true := beq_iff_eq.mpr h9
      have HR2 : Aside0 (mx 0 (wrap64 (o1 - rim)) = r1) := ⟨by rw [← HR1.out, if_pos h9]⟩
      clear h9
      cases b3 <;> (go_wp2; all_goals (have e2 := HR2.out; unfold mx at e2; go_ret2; first | exact ⟨by rw [show r1 = 0 from by split at e2 <;> omega]; rfl, HB5.out⟩ | exact ⟨by rw [show r1 = wrap64 (o1 - rim) from by split at e2 <;> omega]; rfl, HB5.out⟩))
    · have hb9 : (x9 == 1) = false := beq_eq_false_iff_ne.mpr h9
      have HR2 : Aside0 (mx 0 o1 = r1) := ⟨by rw [← HR1.out, if_neg h9]⟩
      clear h9
      cases b3 <;> (go_wp2; all_goals (have e2 := HR2.out; unfold mx at e2; go_ret2; first | exact ⟨by rw [show r1 = 0 from by split at e2 <;> omega]; rfl, HB5.out⟩ | exact ⟨by rw [show r1 = o1 from by split at e2 <;> omega]; rfl, HB5.out⟩))
end Go.Proofs.Ytaejmgdpnnhpmaa.QSty
