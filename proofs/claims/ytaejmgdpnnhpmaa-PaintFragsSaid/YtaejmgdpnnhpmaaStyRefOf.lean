/- The reference's bound of a property, walked by hand. -/
import Derived.Test.YtaejmgdpnnhpmaaStyTold
namespace Go.Proofs.Ytaejmgdpnnhpmaa.QSty
open Go.RowKit Go.Proofs.YtaejmgdpnnhpmaaW.PrintWords Go.Proofs.YtaejmgdpnnhpmaaW.PrintLast Go.Proofs.YtaejmgdpnnhpmaaW.PrintMore
attribute [local go_sem] max2_int min2_int max_two min_two
set_option linter.unusedVariables false
set_option linter.unusedSimpArgs false
set_option maxHeartbeats 8000000 in
set_option maxRecDepth 100000 in
theorem ref_bound1.calls (xs : List Int) (room rim p : Int) (hl : xs.length = 118) (c1 : 0 ≤ p) (c2 : p < 59) (gs g2 g3 g4 : Nat) (w : World) (hs : w.heap[gs]? = some (.cells (nums .i64 xs).toArray 25 (0, 0)))
    (h2 : w.heap[g2]? = some (.cells #[.int .i64 room] 3 (0, 0))) (h3 : w.heap[g3]? = some (.cells #[.bool true] 4 (0, 0))) (h4 : w.heap[g4]? = some (.cells #[.int .i64 rim] 3 (0, 0))) :
    Calls Try.prog 103 #[.int .i64 p, .pointer (some ⟨gs, 0, none⟩), .pointer (some ⟨g2, 0, none⟩), .pointer (some ⟨g3, 0, none⟩), .pointer (some ⟨g4, 0, none⟩)] w fun e w' => e = .returned (.tuple #[.int .i64 (bof xs room rim p).1, .bool (bof xs room rim p).2]) ∧ Below w.heap.size w w' := by
  have HC := fun w => clerestoryref3_Of.calls (xs.getD (p.toNat * 2) 0) (xs.getD (p.toNat * 2 + 1) 0) room _ _ w (of_b _ _ _)
  obtain ⟨r1, r2, hr⟩ : ∃ r1 r2, bof xs room rim p = (r1, r2) := ⟨_, _, rfl⟩
  rw [hr]
  unfold bof at hr
  obtain ⟨o1, o2, ho⟩ : ∃ o1 o2, ofv (xs.getD (p.toNat * 2) 0) (xs.getD (p.toNat * 2 + 1) 0) room = (o1, o2) := ⟨_, _, rfl⟩
  rw [ho] at HC hr
  obtain ⟨c, hc⟩ : ∃ c, (nums .i64 xs).toArray = c := ⟨_, rfl⟩
  have HA : ∀ j, j < 118 → c[j]? = some (.int .i64 (xs.getD j 0)) := fun j hj => by rw [← hc]; simp [nums, hl, hj]
  rw [hc] at hs
  have HC' := Aside0.mk HC
  have HR := Aside0.mk hr
  obtain ⟨k, hk⟩ : ∃ k, xs.getD (p.toNat * 2) 0 = k := ⟨_, rfl⟩
  obtain ⟨n, hn⟩ : ∃ n, xs.getD (p.toNat * 2 + 1) 0 = n := ⟨_, rfl⟩
  obtain ⟨x9, h9⟩ : ∃ n, xs.getD 9 0 = n := ⟨_, rfl⟩
  have A0 : Aside0 (c[p.toNat * 2]? = some (.int .i64 k)) := ⟨by rw [HA _ (by omega), hk]⟩
  have A1 : Aside0 (c[p.toNat * 2 + 1]? = some (.int .i64 n)) := ⟨by rw [HA _ (by omega), hn]⟩
  have A9 : Aside0 (c[9]? = some (.int .i64 x9)) := ⟨by rw [HA _ (by omega), h9]⟩
  rw [hk, hn] at HC'
  rw [h9] at HR
  clear HC hr hc ho hk hn h9 HA
  have HB := Aside0.mk (Below.refl w.heap.size w)
  have HS := Aside0.mk hs
  have HG2 := Aside0.mk h2
  have HG3 := Aside0.mk h3
  have HG4 := Aside0.mk h4
  have q1 := eq_true c1
  have q2 := eq_true c2
  clear c1 c2 hs h2 h3 h4
  have z0 : w.cell? ⟨gs, p.toNat * 2, none⟩ = some (.int .i64 k) := (blk_cell HS.out _).trans A0.out
  have z1 : w.cell? ⟨gs, p.toNat * 2 + 1, none⟩ = some (.int .i64 n) := (blk_cell HS.out _).trans A1.out
  have z2 : w.cell? ⟨g2, 0, none⟩ = some (.int .i64 room) := (blk_cell HG2.out 0).trans rfl
  go_enter Try.func103, Try.ntmps103
  go_wp2
  refine start_ (n := 10) (S := fun w' => w'.cell? ⟨gs, p.toNat * 2, none⟩ = some (.int .i64 k) ∧ w'.cell? ⟨gs, p.toNat * 2 + 1, none⟩ = some (.int .i64 n) ∧ w'.cell? ⟨g2, 0, none⟩ = some (.int .i64 room) ∧ Below w.heap.size w w') (ds := []) #[false, false, false, false, false, false, false, false, false, false] (by kernel_rfl) rfl rfl ⟨z0, z1, z2, below_drew1 HB.out⟩ (fun hHeld => ?_)
  refine pure_ (i := 0) (N := some 11) (v := ?_) (a' := ?_) #[true, false, false, false, false, false, false, false, false, false] rfl rfl (by kernel_rfl) (fun _ _ _ h => h) (Or.inl ⟨by rfl, ?_⟩) ?_ ?_
  rotate_left
  · intro w'
    go_simp
    with_reducible rfl
  rotate_left
  · simp only [Act.put, List.setIfInBounds_toArray, List.set_cons_zero, List.set_cons_succ, i64_w, i32_w]
    rfl
  refine pure_ (i := 1) (N := some 12) (v := ?_) (a' := ?_) #[true, true, false, false, false, false, false, false, false, false] rfl rfl (by kernel_rfl) (fun _ _ _ h => h) (Or.inl ⟨by rfl, ?_⟩) ?_ ?_
  rotate_left
  · intro w'
    go_simp
    with_reducible rfl
  rotate_left
  · simp only [Act.put, List.setIfInBounds_toArray, List.set_cons_zero, List.set_cons_succ, i64_w, i32_w]
    rfl
  refine take_ (i := 2) (N := some 13) (v := ?_) (a' := ?_) #[true, true, true, false, false, false, false, false, false, false] rfl rfl (by kernel_rfl) (fun _ _ _ h => h) (Or.inl ⟨by rfl, ?_⟩) hHeld ?_ ?_
  rotate_left
  · rintro w' ⟨s0, s1, s2, s3⟩
    go_simp
    with_reducible rfl
  rotate_left
  · simp only [Act.put, List.setIfInBounds_toArray, List.set_cons_zero, List.set_cons_succ, i64_w, i32_w]
    rfl
  refine take_ (i := 3) (N := some 14) (v := ?_) (a' := ?_) #[true, true, true, true, false, false, false, false, false, false] rfl rfl (by kernel_rfl) (fun _ _ _ h => h) (Or.inl ⟨by rfl, ?_⟩) hHeld ?_ ?_
  rotate_left
  · rintro w' ⟨s0, s1, s2, s3⟩
    go_simp
    with_reducible rfl
  rotate_left
  · simp only [Act.put, List.setIfInBounds_toArray, List.set_cons_zero, List.set_cons_succ, i64_w, i32_w]
    rfl
  refine one_ (i := 4) (N := some 15) #[true, true, true, true, true, false, false, false, false, false] rfl rfl (by kernel_rfl) (by decide) (fun K hK => ?_)
  refine goes_ Try.func15 (by kernel_rfl) rfl #[.agg #[.int .i64 k, .int .i64 n], .int .i64 room] (by rfl) rfl rfl (by simp only [List.map_toArray, List.map_cons, List.map_nil]; rfl) ?_
  with_reducible refine (HC'.out _).mono ?_
  rintro e w3 ⟨rfl, hb⟩
  refine ⟨_, rfl, ?_⟩
  have hh := Aside0.mk (blk_below (show w.drew.heap[gs]? = _ from HS.out) hb)
  have hh2 := Aside0.mk (blk_below (show w.drew.heap[g2]? = _ from HG2.out) hb)
  have hh3 := Aside0.mk (blk_below (show w.drew.heap[g3]? = _ from HG3.out) hb)
  have hh4 := Aside0.mk (blk_below (show w.drew.heap[g4]? = _ from HG4.out) hb)
  have hb2 := below_step hHeld.2.2.2 hb
  refine hK.out _ _ ⟨((blk_cell hh.out _).trans A0.out), ((blk_cell hh.out _).trans A1.out), ((blk_cell hh2.out 0).trans rfl), hb2⟩ (fun hHeld => ?_)
  clear hK K
  refine norm_ (a' := ?_) ?_ ?_
  rotate_left
  · show Act.put _ (some 15) _ = _
    simp only [Act.put, List.setIfInBounds_toArray, List.set_cons_zero, List.set_cons_succ, i64_w, i32_w]
    rfl
  refine pure_ (i := 5) (N := some 10) (v := ?_) (a' := ?_) #[true, true, true, true, true, true, false, false, false, false] rfl rfl (by kernel_rfl) (fun _ _ _ h => h) (Or.inl ⟨by rfl, ?_⟩) ?_ ?_
  rotate_left
  · intro w'
    go_simp
    with_reducible rfl
  rotate_left
  · simp only [Act.put, List.setIfInBounds_toArray, List.set_cons_zero, List.set_cons_succ, i64_w, i32_w]
    rfl
  refine pure_ (i := 6) (N := some 16) (v := ?_) (a' := ?_) #[true, true, true, true, true, true, true, false, false, false] rfl rfl (by kernel_rfl) (fun _ _ _ h => h) (Or.inl ⟨by rfl, ?_⟩) ?_ ?_
  rotate_left
  · intro w'
    go_simp
    with_reducible rfl
  rotate_left
  · simp only [Act.put, List.setIfInBounds_toArray, List.set_cons_zero, List.set_cons_succ, i64_w, i32_w]
    rfl
  refine pure_ (i := 7) (N := some 17) (v := ?_) (a' := ?_) #[true, true, true, true, true, true, true, true, false, false] rfl rfl (by kernel_rfl) (fun _ _ _ h => h) (Or.inl ⟨by rfl, ?_⟩) ?_ ?_
  rotate_left
  · intro w'
    go_simp
    with_reducible rfl
  rotate_left
  · simp only [Act.put, List.setIfInBounds_toArray, List.set_cons_zero, List.set_cons_succ, i64_w, i32_w]
    rfl
  refine pure_ (i := 8) (N := some 8) (v := ?_) (a' := ?_) #[true, true, true, true, true, true, true, true, true, false] rfl rfl (by kernel_rfl) (fun _ _ _ h => h) (Or.inl ⟨by rfl, ?_⟩) ?_ ?_
  rotate_left
  · intro w'
    go_simp
    with_reducible rfl
  rotate_left
  · simp only [Act.put, List.setIfInBounds_toArray, List.set_cons_zero, List.set_cons_succ, i64_w, i32_w]
    rfl
  refine pure_ (i := 9) (N := some 9) (v := ?_) (a' := ?_) #[true, true, true, true, true, true, true, true, true, true] rfl rfl (by kernel_rfl) (fun _ _ _ h => h) (Or.inl ⟨by rfl, ?_⟩) ?_ ?_
  rotate_left
  · intro w'
    go_simp
    with_reducible rfl
  rotate_left
  · simp only [Act.put, List.setIfInBounds_toArray, List.set_cons_zero, List.set_cons_succ, i64_w, i32_w]
    rfl
  refine done_ (by kernel_rfl) ?_
  clear z0 z1 z2
  have z0 : w3.cell? ⟨gs, p.toNat * 2, none⟩ = some (.int .i64 k) := (blk_cell hh.out _).trans A0.out
  have z9 : w3.cell? ⟨gs, 9, none⟩ = some (.int .i64 x9) := (blk_cell hh.out _).trans A9.out
  have z119 : w3.cell? ⟨g4, 0, none⟩ = some (.int .i64 rim) := (blk_cell hh4.out 0).trans rfl
  have z120 : w3.cell? ⟨g3, 0, none⟩ = some (.bool true) := (blk_cell hh3.out 0).trans rfl
  have HB5 := Aside0.mk hb2
  clear hHeld hb hb2
  have hr := HR.out
  cases o2
  · simp only [if_pos] at hr
    obtain ⟨rfl, rfl⟩ := Prod.mk.inj hr
    clear hr HR
    go_wp2
    go_ret2
    exact ⟨rfl, HB5.out⟩
  · rw [if_neg (by simp)] at hr
    obtain ⟨hr1, rfl⟩ := Prod.mk.inj hr
    have HR1 := Aside0.mk hr1
    clear hr HR hr1
    obtain ⟨b3, hb3⟩ : ∃ b, (k == 3) = b := ⟨_, rfl⟩
    by_cases h9 : x9 = 1
    · have hb9 : (x9 == 1) = true := beq_iff_eq.mpr h9
      have HR2 : Aside0 (mx 0 (wrap64 (o1 - rim)) = r1) := ⟨by rw [← HR1.out, if_pos h9]⟩
      clear h9
      cases b3 <;> (go_wp2; all_goals (have e2 := HR2.out; unfold mx at e2; go_ret2; first | exact ⟨by rw [show r1 = 0 from by split at e2 <;> omega]; rfl, HB5.out⟩ | exact ⟨by rw [show r1 = wrap64 (o1 - rim) from by split at e2 <;> omega]; rfl, HB5.out⟩))
    · have hb9 : (x9 == 1) = false := beq_eq_false_iff_ne.mpr h9
      have HR2 : Aside0 (mx 0 o1 = r1) := ⟨by rw [← HR1.out, if_neg h9]⟩
      clear h9
      cases b3 <;> (go_wp2; all_goals (have e2 := HR2.out; unfold mx at e2; go_ret2; first | exact ⟨by rw [show r1 = 0 from by split at e2 <;> omega]; rfl, HB5.out⟩ | exact ⟨by rw [show r1 = o1 from by split at e2 <;> omega]; rfl, HB5.out⟩))
end Go.Proofs.Ytaejmgdpnnhpmaa.QSty
