/- The reference's Wide, walked by hand. -/
import Derived.Test.YtaejmgdpnnhpmaaStyWide
import Derived.Test.YtaejmgdpnnhpmaaStyRim
namespace Go.Proofs.Ytaejmgdpnnhpmaa.QSty
open Go.RowKit Go.Proofs.YtaejmgdpnnhpmaaW.PrintWords Go.Proofs.YtaejmgdpnnhpmaaW.PrintLast Go.Proofs.YtaejmgdpnnhpmaaW.PrintMore
attribute [local go_sem] max2_int min2_int max_two min_two
set_option linter.unusedVariables false
set_option linter.unusedSimpArgs false
theorem edg1_auto {xs : List Int} {room : Int} (p : Int) (h0 : 0 ≤ p) (h1 : p < 59) (h : xs.getD (p.toNat * 2) 0 = 6) : edg1 xs p room = 0 := by
  unfold edg1 len1
  rw [if_pos h0, if_pos h1, h]
  rfl
theorem wrap_sub0 (y : Int) : wrap64 (wrap64 y - 0) = wrap64 y := by
  unfold wrap64
  omega
set_option maxHeartbeats 8000000 in
set_option maxRecDepth 100000 in
theorem ref_Wide.calls (xs : List Int) (room0 : Int) (hl : xs.length = 118) (w : World) :
    Calls Try.prog 19 #[sty xs, .int .i64 room0] w fun e w' => e = .returned (wideof xs (cut room0)) ∧ Below w.heap.size w w' := by
  have CC := fun n w => (clerestoryref3_Cut.calls n _ w (cut_b n)).mono (fun _ _ h => (⟨h.1, h.2.below⟩ : _ ∧ Below w.heap.size w _))
  have CP := fun n w => (clerestoryref3_Part.calls n 1 2 _ w (part_b n 1 2)).mono (fun _ _ h => (⟨h.1, h.2.below⟩ : _ ∧ Below w.heap.size w _))
  have C0 := CC room0
  obtain ⟨room, hroom⟩ : ∃ r, cut room0 = r := ⟨_, rfl⟩
  rw [hroom] at C0 ⊢
  clear hroom
  have A3 : xs.getD 28 0 = 6 → edg1 xs (11 + 3) room = 0 := fun h => edg1_auto _ (by omega) (by omega) h
  have A1 : xs.getD 24 0 = 6 → edg1 xs (11 + 1) room = 0 := fun h => edg1_auto _ (by omega) (by omega) h
  have CR := fun w => ref_Rim.calls xs room hl w
  have CE := fun w => clerestoryref3_Edges.calls xs 11 room false hl (by omega) (by omega) w
  have CB := fun n w => ref_bound.calls xs room (rimof xs room) n hl w
  unfold wideof rest_
  have hT : btold xs room (rimof xs room) (wrap64 (wrap64 (wrap64 (room - edg1 xs (11 + 3) room) - edg1 xs (11 + 1) room) - rimof xs room)) = told_ xs room := rfl
  have hedg : edgU false xs 11 room = .agg #[.int .i64 (edg1 xs 11 room), .int .i64 (edg1 xs (11 + 1) room), .int .i64 (edg1 xs (11 + 2) room), .int .i64 (edg1 xs (11 + 3) room)] := rfl
  rw [hedg] at CE
  clear hedg
  obtain ⟨td, htd⟩ : ∃ t, told_ xs room = t := ⟨_, rfl⟩
  rw [htd] at hT ⊢
  clear htd
  obtain ⟨f0, hf0⟩ : ∃ v, edg1 xs 11 room = v := ⟨_, rfl⟩
  obtain ⟨f1, hf1⟩ : ∃ v, edg1 xs (11 + 1) room = v := ⟨_, rfl⟩
  obtain ⟨f2, hf2⟩ : ∃ v, edg1 xs (11 + 2) room = v := ⟨_, rfl⟩
  obtain ⟨f3, hf3⟩ : ∃ v, edg1 xs (11 + 3) room = v := ⟨_, rfl⟩
  rw [hf0, hf1, hf2, hf3] at CE
  rw [hf1, hf3] at hT ⊢
  rw [hf3] at A3
  rw [hf1] at A1
  clear hf0 hf1 hf2 hf3
  obtain ⟨rim, hm⟩ : ∃ r, rimof xs room = r := ⟨_, rfl⟩
  rw [hm] at CR CB hT ⊢
  clear hm
  have CB1 := CB (wrap64 (wrap64 (wrap64 (room - f3) - f1) - rim))
  rw [hT] at CB1
  clear CB hT
  obtain ⟨rest, hrest⟩ : ∃ r, wrap64 (wrap64 (wrap64 (wrap64 (room - td) - rim) - f3) - f1) = r := ⟨_, rfl⟩
  rw [hrest]
  have HREST := Aside0.mk hrest
  clear hrest
  unfold sty at *
  obtain ⟨a, ha⟩ : ∃ a, (nums .i64 xs).toArray = a := ⟨_, rfl⟩
  have hsz : a.size = 118 := by rw [← ha]; simp [nums, hl]
  have A28 : Aside0 (a[28]? = some (.int .i64 (xs.getD 28 0))) := ⟨by rw [← ha]; simp [nums, hl]⟩
  have A24 : Aside0 (a[24]? = some (.int .i64 (xs.getD 24 0))) := ⟨by rw [← ha]; simp [nums, hl]⟩
  rw [ha] at CR CE CB1 ⊢
  clear ha hl
  obtain ⟨k14, hk14⟩ : ∃ k, xs.getD 28 0 = k := ⟨_, rfl⟩
  obtain ⟨k12, hk12⟩ : ∃ k, xs.getD 24 0 = k := ⟨_, rfl⟩
  rw [hk14] at A28 A3 ⊢
  rw [hk12] at A24 A1 ⊢
  clear hk14 hk12
  obtain ⟨l, r, hs⟩ : ∃ l r, sides k14 k12 rest f3 f1 = (l, r) := ⟨_, _, rfl⟩
  rw [hs]
  have HS := Aside0.mk hs
  clear hs
  have KC := Aside0.mk CC
  have KP := Aside0.mk CP
  have K0 := Aside0.mk C0
  have KR := Aside0.mk CR
  have KE := Aside0.mk CE
  have KT := Aside0.mk CB1
  clear CC CP C0 CR CE CB1
  have H3 := Aside0.mk A3
  have H1 := Aside0.mk A1
  clear A3 A1
  have HB := Aside0.mk (Below.refl w.heap.size w)
  rcases (Classical.em (k14 = 6)) with c14 | c14 <;> rcases (Classical.em (k12 = 6)) with c12 | c12
  · skip
    have b14 : (k14 == 6) = true := beq_iff_eq.mpr c14
    have n14 : (k14 != 6) = false := by rw [bne, b14]; rfl
    have d14 : (!(k14 == 6)) = false := by rw [b14]; rfl
    have b12 : (k12 == 6) = true := beq_iff_eq.mpr c12
    have n12 : (k12 != 6) = false := by rw [bne, b12]; rfl
    have d12 : (!(k12 == 6)) = false := by rw [b12]; rfl
    have hr0 : wrap64 (wrap64 (room - td) - rim) = rest := by
      have h := HREST.out
      rw [H3.out c14, wrap_sub0] at h
      rw [H1.out c12, wrap_sub0] at h
      exact h
    have hw_ : wrap64 rest = rest := by rw [← HREST.out]; unfold wrap64; omega
    have HW := Aside0.mk hw_
    clear hw_
    have hs := HS.out
    unfold sides at hs
    clear HREST HS
    have HR0 := Aside0.mk hr0
    have HS := Aside0.mk hs
    have C14 := Aside0.mk c14
    have C12 := Aside0.mk c12
    clear hr0 hs c14 c12
    go_enter Try.func19, Try.ntmps19
    go_wp2_with (first | ((with_reducible refine gate_dst (N := 2) rfl ?_); refine box_event rfl (N := 2) rfl (cs := a) (t := 25) (by first | (go_simp; done) | (go_simp; rfl)) ?_; intro gs hg_ w1 hbx hb; have KS1 := Aside0.mk hbx; have HB1 := Aside0.mk (below_step HB.out hb); clear hg_ hbx hb) | (go_at_call 21; (with_reducible refine (K0.out _).mono ?_); rintro e w2 ⟨rfl, hb⟩; have KS2 := Aside0.mk (blk_below KS1.out hb); have HB2 := Aside0.mk (below_step HB1.out hb); clear hb) | ((with_reducible refine gate_dst (N := 17) rfl ?_); refine wpList_load_row rfl 25 _ rfl gs rfl 25 _ (0, 0) _ KS2.out Try.underlying25 rfl (by rw [hsz]; kernel_rfl) ?_) | (go_at_call 55; (with_reducible refine (KR.out _).mono ?_); rintro e w3 ⟨⟨high, rfl⟩, hb⟩; have KS3 := Aside0.mk (blk_below KS2.out hb); have HB3 := Aside0.mk (below_step HB2.out hb); clear hb) | ((with_reducible refine gate_dst (N := 22) rfl ?_); refine wpList_load_row rfl 25 _ rfl gs rfl 25 _ (0, 0) _ KS3.out Try.underlying25 rfl (by rw [hsz]; kernel_rfl) ?_) | (go_at_call 17; (with_reducible refine (KE.out _).mono ?_); rintro e w4 ⟨rfl, hb⟩; have KS4 := Aside0.mk (blk_below KS3.out hb); have HB4 := Aside0.mk (below_step HB3.out hb); clear hb) | ((with_reducible refine gate_dst (N := 9) rfl ?_); refine box_event rfl (N := 9) rfl (cs := #[.int .i64 0, .int .i64 0, .int .i64 0, .int .i64 0]) (t := 28) (by first | (go_simp; done) | (go_simp; rfl)) ?_; intro g9 hg_ w5 hbx hb; have K9_5 := Aside0.mk hbx; have B9 := Aside0.mk (show w.heap.size ≤ g9 by have := HB4.out.size; omega); have KS5 := Aside0.mk (blk_below KS4.out hb); have N9 : gs ≠ g9 := (by have h1 := blk_lt KS4.out; omega); have HB5 := Aside0.mk (below_step HB4.out hb); clear hg_ hbx hb; have z0 : w5.cell? ⟨g9, 0, none⟩ = some (.int .i64 0) := (blk_cell K9_5.out 0).trans rfl; have y0 := blk_frozen K9_5.out 0; have z1 : w5.cell? ⟨g9, 1, none⟩ = some (.int .i64 0) := (blk_cell K9_5.out 1).trans rfl; have y1 := blk_frozen K9_5.out 1; have z2 : w5.cell? ⟨g9, 2, none⟩ = some (.int .i64 0) := (blk_cell K9_5.out 2).trans rfl; have y2 := blk_frozen K9_5.out 2; have z3 : w5.cell? ⟨g9, 3, none⟩ = some (.int .i64 0) := (blk_cell K9_5.out 3).trans rfl; have y3 := blk_frozen K9_5.out 3) | ((with_reducible refine gate_dst (N := 25) rfl ?_); have KS6 : Aside0 (((((w5.setCell ⟨g9, 0, none⟩ (.int .i64 f0)).setCell ⟨g9, 1, none⟩ (.int .i64 f1)).setCell ⟨g9, 2, none⟩ (.int .i64 f2)).setCell ⟨g9, 3, none⟩ (.int .i64 f3)).heap[gs]? = _) := ⟨blk_far (blk_far (blk_far (blk_far KS5.out N9 _) N9 _) N9 _) N9 _⟩; have K9_6 : Aside0 (((((w5.setCell ⟨g9, 0, none⟩ (.int .i64 f0)).setCell ⟨g9, 1, none⟩ (.int .i64 f1)).setCell ⟨g9, 2, none⟩ (.int .i64 f2)).setCell ⟨g9, 3, none⟩ (.int .i64 f3)).heap[g9]? = some (.cells #[.int .i64 f0, .int .i64 f1, .int .i64 f2, .int .i64 f3] 28 (0, 0))) := ⟨blk_put (blk_put (blk_put (blk_put K9_5.out 0 (.int .i64 f0) rfl) 1 (.int .i64 f1) rfl) 2 (.int .i64 f2) rfl) 3 (.int .i64 f3) rfl⟩; have HB6 : Aside0 (Below w.heap.size w ((((w5.setCell ⟨g9, 0, none⟩ (.int .i64 f0)).setCell ⟨g9, 1, none⟩ (.int .i64 f1)).setCell ⟨g9, 2, none⟩ (.int .i64 f2)).setCell ⟨g9, 3, none⟩ (.int .i64 f3))) := ⟨(((HB5.out.setCell B9.out _).setCell B9.out _).setCell B9.out _).setCell B9.out _⟩; clear z0 z1 z2 z3 y0 y1 y2 y3; generalize ((((w5.setCell ⟨g9, 0, none⟩ (.int .i64 f0)).setCell ⟨g9, 1, none⟩ (.int .i64 f1)).setCell ⟨g9, 2, none⟩ (.int .i64 f2)).setCell ⟨g9, 3, none⟩ (.int .i64 f3)) = w6 at KS6 K9_6 HB6 ⊢; have v3 : w6.cell? ⟨g9, 3, none⟩ = some (.int .i64 f3) := (blk_cell K9_6.out 3).trans rfl; have v1 : w6.cell? ⟨g9, 1, none⟩ = some (.int .i64 f1) := (blk_cell K9_6.out 1).trans rfl; refine wpList_load_row rfl 25 _ rfl gs rfl 25 _ (0, 0) _ KS6.out Try.underlying25 rfl (by rw [hsz]; kernel_rfl) ?_) | (go_at_call 56; (with_reducible refine (KT.out _).mono ?_); rintro e w7 ⟨rfl, hb⟩; have KS7 := Aside0.mk (blk_below KS6.out hb); have K9_7 := Aside0.mk (blk_below K9_6.out hb); have HB7 := Aside0.mk (below_step HB6.out hb); clear hb; clear v3 v1; have v3 : w7.cell? ⟨g9, 3, none⟩ = some (.int .i64 f3) := (blk_cell K9_7.out 3).trans rfl; have v1 : w7.cell? ⟨g9, 1, none⟩ = some (.int .i64 f1) := (blk_cell K9_7.out 1).trans rfl; have u14 : w7.cell? ⟨gs, 28, none⟩ = some (.int .i64 k14) := (blk_cell KS7.out 28).trans A28.out; have u12 : w7.cell? ⟨gs, 24, none⟩ = some (.int .i64 k12) := (blk_cell KS7.out 24).trans A24.out))
    rw [HR0.out]
    refine start_ (n := 6) (S := fun w' => w'.cell? ⟨g9, 3, none⟩ = some (.int .i64 f3) ∧ w'.cell? ⟨g9, 1, none⟩ = some (.int .i64 f1) ∧ w'.cell? ⟨gs, 28, none⟩ = some (.int .i64 k14) ∧ w'.cell? ⟨gs, 24, none⟩ = some (.int .i64 k12) ∧ Below w.heap.size w w') (ds := []) #[false, false, false, false, false, false] (by kernel_rfl) rfl rfl ⟨v3, v1, u14, u12, below_drew1 HB7.out⟩ (fun hHeld => ?_)
    refine pure_ (i := 0) (N := some 59) (v := ?_) (a' := ?_) #[true, false, false, false, false, false] rfl rfl (by kernel_rfl) (fun _ _ _ h => h) (Or.inl ⟨by rfl, ?_⟩) ?_ ?_
    rotate_left
    · intro w'
      go_simp
      with_reducible rfl
    rotate_left
    · simp only [Act.put, List.setIfInBounds_toArray, List.set_cons_zero, List.set_cons_succ, i64_w, i32_w]
      rfl
    refine pure_ (i := 2) (N := some 61) (v := ?_) (a' := ?_) #[true, false, true, false, false, false] rfl rfl (by kernel_rfl) (fun _ _ _ h => h) (Or.inl ⟨by rfl, ?_⟩) ?_ ?_
    rotate_left
    · intro w'
      go_simp
      with_reducible rfl
    rotate_left
    · simp only [Act.put, List.setIfInBounds_toArray, List.set_cons_zero, List.set_cons_succ, i64_w, i32_w]
      rfl
    refine take_ (i := 1) (N := some 60) (v := ?_) (a' := ?_) #[true, true, true, false, false, false] rfl rfl (by kernel_rfl) (fun _ _ _ h => h) (Or.inl ⟨by rfl, ?_⟩) hHeld ?_ ?_
    rotate_left
    · rintro w' ⟨s0, s1, s2, s3, s4⟩
      go_simp
      with_reducible rfl
    rotate_left
    · simp only [Act.put, List.setIfInBounds_toArray, List.set_cons_zero, List.set_cons_succ, i64_w, i32_w]
      rfl
    refine pure_ (i := 4) (N := some 12) (v := ?_) (a' := ?_) #[true, true, true, false, true, false] rfl rfl (by kernel_rfl) (fun _ _ _ h => h) (Or.inl ⟨by rfl, ?_⟩) ?_ ?_
    rotate_left
    · intro w'
      go_simp
      with_reducible rfl
    rotate_left
    · simp only [Act.put, List.setIfInBounds_toArray, List.set_cons_zero, List.set_cons_succ, i64_w, i32_w]
      rfl
    refine take_ (i := 3) (N := some 62) (v := ?_) (a' := ?_) #[true, true, true, true, true, false] rfl rfl (by kernel_rfl) (fun _ _ _ h => h) (Or.inl ⟨by rfl, ?_⟩) hHeld ?_ ?_
    rotate_left
    · rintro w' ⟨s0, s1, s2, s3, s4⟩
      go_simp
      with_reducible rfl
    rotate_left
    · simp only [Act.put, List.setIfInBounds_toArray, List.set_cons_zero, List.set_cons_succ, i64_w, i32_w]
      rfl
    refine pure_ (i := 5) (N := some 13) (v := ?_) (a' := ?_) #[true, true, true, true, true, true] rfl rfl (by kernel_rfl) (fun _ _ _ h => h) (Or.inl ⟨by rfl, ?_⟩) ?_ ?_
    rotate_left
    · intro w'
      go_simp
      with_reducible rfl
    rotate_left
    · simp only [Act.put, List.setIfInBounds_toArray, List.set_cons_zero, List.set_cons_succ, i64_w, i32_w]
      rfl
    refine done_ (by kernel_rfl) ?_
    obtain ⟨x3, x1, x14, x12, xb⟩ := hHeld
    have HB10 := Aside0.mk xb
    clear xb v3 v1 u14 u12
    generalize w7.drew = w9 at x3 x1 x14 x12 HB10 ⊢
    rcases Classical.em (rest > 0) with cr | cr
    · skip
      have br : decide (rest > 0) = true := decide_eq_true cr
      have hs := HS.out
      simp [C14.out, C12.out, cr] at hs
      clear cr
      obtain ⟨hl_, hr_⟩ := hs
      have HL_ := Aside0.mk hl_
      have HR_ := Aside0.mk hr_
      clear hl_ hr_ HS C14 C12 H3 H1 HW
      go_wp2_with (first | (go_at_call 48; (with_reducible refine (KP.out _ _).mono ?_); rintro e w11 ⟨rfl, hb⟩; have n9_ := Aside0.mk (below_step HB10.out hb); clear HB10 hb; have HB10 := n9_; clear n9_) | (go_at_call 21; (with_reducible refine (KC.out _ _).mono ?_); rintro e w11 ⟨rfl, hb⟩; have n9_ := Aside0.mk (below_step HB10.out hb); clear HB10 hb; have HB10 := n9_; clear n9_))
      exact bodyPost_ret (results_list (rs := [.tmp 4, .tmp 5, .tmp 6]) rfl (by simp) (.tmp (.tmp (.tmp .nil)))) rfl ⟨by rw [← HL_.out, ← HR_.out]; rfl, HB10.out⟩
    · skip
      have br : decide (rest > 0) = false := decide_eq_false cr
      have hs := HS.out
      simp [C14.out, C12.out, cr, H3.out C14.out, H1.out C12.out, HW.out] at hs
      clear cr
      obtain ⟨hl_, hr_⟩ := hs
      have HL_ := Aside0.mk hl_
      have HR_ := Aside0.mk hr_
      clear hl_ hr_ HS C14 C12 H3 H1 HW
      go_wp2_with (first | (go_at_call 48; (with_reducible refine (KP.out _ _).mono ?_); rintro e w11 ⟨rfl, hb⟩; have n9_ := Aside0.mk (below_step HB10.out hb); clear HB10 hb; have HB10 := n9_; clear n9_) | (go_at_call 21; (with_reducible refine (KC.out _ _).mono ?_); rintro e w11 ⟨rfl, hb⟩; have n9_ := Aside0.mk (below_step HB10.out hb); clear HB10 hb; have HB10 := n9_; clear n9_))
      exact bodyPost_ret (results_list (rs := [.tmp 4, .tmp 5, .tmp 6]) rfl (by simp) (.tmp (.tmp (.tmp .nil)))) rfl ⟨by rw [← HL_.out, ← HR_.out]; rfl, HB10.out⟩
  · skip
    have b14 : (k14 == 6) = true := beq_iff_eq.mpr c14
    have n14 : (k14 != 6) = false := by rw [bne, b14]; rfl
    have d14 : (!(k14 == 6)) = false := by rw [b14]; rfl
    have b12 : (k12 == 6) = false := beq_eq_false_iff_ne.mpr c12
    have n12 : (k12 != 6) = true := by rw [bne, b12]; rfl
    have d12 : (!(k12 == 6)) = true := by rw [b12]; rfl
    have hr0 : wrap64 (wrap64 (wrap64 (room - td) - rim) - f1) = rest := by
      have h := HREST.out
      rw [H3.out c14, wrap_sub0] at h
      exact h
    have hw_ : wrap64 rest = rest := by rw [← HREST.out]; unfold wrap64; omega
    have HW := Aside0.mk hw_
    clear hw_
    have hs := HS.out
    unfold sides at hs
    clear HREST HS
    have HR0 := Aside0.mk hr0
    have HS := Aside0.mk hs
    have C14 := Aside0.mk c14
    have C12 := Aside0.mk c12
    clear hr0 hs c14 c12
    go_enter Try.func19, Try.ntmps19
    go_wp2_with (first | ((with_reducible refine gate_dst (N := 2) rfl ?_); refine box_event rfl (N := 2) rfl (cs := a) (t := 25) (by first | (go_simp; done) | (go_simp; rfl)) ?_; intro gs hg_ w1 hbx hb; have KS1 := Aside0.mk hbx; have HB1 := Aside0.mk (below_step HB.out hb); clear hg_ hbx hb) | (go_at_call 21; (with_reducible refine (K0.out _).mono ?_); rintro e w2 ⟨rfl, hb⟩; have KS2 := Aside0.mk (blk_below KS1.out hb); have HB2 := Aside0.mk (below_step HB1.out hb); clear hb) | ((with_reducible refine gate_dst (N := 17) rfl ?_); refine wpList_load_row rfl 25 _ rfl gs rfl 25 _ (0, 0) _ KS2.out Try.underlying25 rfl (by rw [hsz]; kernel_rfl) ?_) | (go_at_call 55; (with_reducible refine (KR.out _).mono ?_); rintro e w3 ⟨⟨high, rfl⟩, hb⟩; have KS3 := Aside0.mk (blk_below KS2.out hb); have HB3 := Aside0.mk (below_step HB2.out hb); clear hb) | ((with_reducible refine gate_dst (N := 22) rfl ?_); refine wpList_load_row rfl 25 _ rfl gs rfl 25 _ (0, 0) _ KS3.out Try.underlying25 rfl (by rw [hsz]; kernel_rfl) ?_) | (go_at_call 17; (with_reducible refine (KE.out _).mono ?_); rintro e w4 ⟨rfl, hb⟩; have KS4 := Aside0.mk (blk_below KS3.out hb); have HB4 := Aside0.mk (below_step HB3.out hb); clear hb) | ((with_reducible refine gate_dst (N := 9) rfl ?_); refine box_event rfl (N := 9) rfl (cs := #[.int .i64 0, .int .i64 0, .int .i64 0, .int .i64 0]) (t := 28) (by first | (go_simp; done) | (go_simp; rfl)) ?_; intro g9 hg_ w5 hbx hb; have K9_5 := Aside0.mk hbx; have B9 := Aside0.mk (show w.heap.size ≤ g9 by have := HB4.out.size; omega); have KS5 := Aside0.mk (blk_below KS4.out hb); have N9 : gs ≠ g9 := (by have h1 := blk_lt KS4.out; omega); have HB5 := Aside0.mk (below_step HB4.out hb); clear hg_ hbx hb; have z0 : w5.cell? ⟨g9, 0, none⟩ = some (.int .i64 0) := (blk_cell K9_5.out 0).trans rfl; have y0 := blk_frozen K9_5.out 0; have z1 : w5.cell? ⟨g9, 1, none⟩ = some (.int .i64 0) := (blk_cell K9_5.out 1).trans rfl; have y1 := blk_frozen K9_5.out 1; have z2 : w5.cell? ⟨g9, 2, none⟩ = some (.int .i64 0) := (blk_cell K9_5.out 2).trans rfl; have y2 := blk_frozen K9_5.out 2; have z3 : w5.cell? ⟨g9, 3, none⟩ = some (.int .i64 0) := (blk_cell K9_5.out 3).trans rfl; have y3 := blk_frozen K9_5.out 3) | ((with_reducible refine gate_dst (N := 25) rfl ?_); have KS6 : Aside0 (((((w5.setCell ⟨g9, 0, none⟩ (.int .i64 f0)).setCell ⟨g9, 1, none⟩ (.int .i64 f1)).setCell ⟨g9, 2, none⟩ (.int .i64 f2)).setCell ⟨g9, 3, none⟩ (.int .i64 f3)).heap[gs]? = _) := ⟨blk_far (blk_far (blk_far (blk_far KS5.out N9 _) N9 _) N9 _) N9 _⟩; have K9_6 : Aside0 (((((w5.setCell ⟨g9, 0, none⟩ (.int .i64 f0)).setCell ⟨g9, 1, none⟩ (.int .i64 f1)).setCell ⟨g9, 2, none⟩ (.int .i64 f2)).setCell ⟨g9, 3, none⟩ (.int .i64 f3)).heap[g9]? = some (.cells #[.int .i64 f0, .int .i64 f1, .int .i64 f2, .int .i64 f3] 28 (0, 0))) := ⟨blk_put (blk_put (blk_put (blk_put K9_5.out 0 (.int .i64 f0) rfl) 1 (.int .i64 f1) rfl) 2 (.int .i64 f2) rfl) 3 (.int .i64 f3) rfl⟩; have HB6 : Aside0 (Below w.heap.size w ((((w5.setCell ⟨g9, 0, none⟩ (.int .i64 f0)).setCell ⟨g9, 1, none⟩ (.int .i64 f1)).setCell ⟨g9, 2, none⟩ (.int .i64 f2)).setCell ⟨g9, 3, none⟩ (.int .i64 f3))) := ⟨(((HB5.out.setCell B9.out _).setCell B9.out _).setCell B9.out _).setCell B9.out _⟩; clear z0 z1 z2 z3 y0 y1 y2 y3; generalize ((((w5.setCell ⟨g9, 0, none⟩ (.int .i64 f0)).setCell ⟨g9, 1, none⟩ (.int .i64 f1)).setCell ⟨g9, 2, none⟩ (.int .i64 f2)).setCell ⟨g9, 3, none⟩ (.int .i64 f3)) = w6 at KS6 K9_6 HB6 ⊢; have v3 : w6.cell? ⟨g9, 3, none⟩ = some (.int .i64 f3) := (blk_cell K9_6.out 3).trans rfl; have v1 : w6.cell? ⟨g9, 1, none⟩ = some (.int .i64 f1) := (blk_cell K9_6.out 1).trans rfl; refine wpList_load_row rfl 25 _ rfl gs rfl 25 _ (0, 0) _ KS6.out Try.underlying25 rfl (by rw [hsz]; kernel_rfl) ?_) | (go_at_call 56; (with_reducible refine (KT.out _).mono ?_); rintro e w7 ⟨rfl, hb⟩; have KS7 := Aside0.mk (blk_below KS6.out hb); have K9_7 := Aside0.mk (blk_below K9_6.out hb); have HB7 := Aside0.mk (below_step HB6.out hb); clear hb; clear v3 v1; have v3 : w7.cell? ⟨g9, 3, none⟩ = some (.int .i64 f3) := (blk_cell K9_7.out 3).trans rfl; have v1 : w7.cell? ⟨g9, 1, none⟩ = some (.int .i64 f1) := (blk_cell K9_7.out 1).trans rfl; have u14 : w7.cell? ⟨gs, 28, none⟩ = some (.int .i64 k14) := (blk_cell KS7.out 28).trans A28.out; have u12 : w7.cell? ⟨gs, 24, none⟩ = some (.int .i64 k12) := (blk_cell KS7.out 24).trans A24.out))
    rw [HR0.out]
    refine start_ (n := 6) (S := fun w' => w'.cell? ⟨g9, 3, none⟩ = some (.int .i64 f3) ∧ w'.cell? ⟨g9, 1, none⟩ = some (.int .i64 f1) ∧ w'.cell? ⟨gs, 28, none⟩ = some (.int .i64 k14) ∧ w'.cell? ⟨gs, 24, none⟩ = some (.int .i64 k12) ∧ Below w.heap.size w w') (ds := []) #[false, false, false, false, false, false] (by kernel_rfl) rfl rfl ⟨v3, v1, u14, u12, below_drew1 HB7.out⟩ (fun hHeld => ?_)
    refine pure_ (i := 0) (N := some 59) (v := ?_) (a' := ?_) #[true, false, false, false, false, false] rfl rfl (by kernel_rfl) (fun _ _ _ h => h) (Or.inl ⟨by rfl, ?_⟩) ?_ ?_
    rotate_left
    · intro w'
      go_simp
      with_reducible rfl
    rotate_left
    · simp only [Act.put, List.setIfInBounds_toArray, List.set_cons_zero, List.set_cons_succ, i64_w, i32_w]
      rfl
    refine pure_ (i := 2) (N := some 61) (v := ?_) (a' := ?_) #[true, false, true, false, false, false] rfl rfl (by kernel_rfl) (fun _ _ _ h => h) (Or.inl ⟨by rfl, ?_⟩) ?_ ?_
    rotate_left
    · intro w'
      go_simp
      with_reducible rfl
    rotate_left
    · simp only [Act.put, List.setIfInBounds_toArray, List.set_cons_zero, List.set_cons_succ, i64_w, i32_w]
      rfl
    refine take_ (i := 1) (N := some 60) (v := ?_) (a' := ?_) #[true, true, true, false, false, false] rfl rfl (by kernel_rfl) (fun _ _ _ h => h) (Or.inl ⟨by rfl, ?_⟩) hHeld ?_ ?_
    rotate_left
    · rintro w' ⟨s0, s1, s2, s3, s4⟩
      go_simp
      with_reducible rfl
    rotate_left
    · simp only [Act.put, List.setIfInBounds_toArray, List.set_cons_zero, List.set_cons_succ, i64_w, i32_w]
      rfl
    refine pure_ (i := 4) (N := some 12) (v := ?_) (a' := ?_) #[true, true, true, false, true, false] rfl rfl (by kernel_rfl) (fun _ _ _ h => h) (Or.inl ⟨by rfl, ?_⟩) ?_ ?_
    rotate_left
    · intro w'
      go_simp
      with_reducible rfl
    rotate_left
    · simp only [Act.put, List.setIfInBounds_toArray, List.set_cons_zero, List.set_cons_succ, i64_w, i32_w]
      rfl
    refine take_ (i := 3) (N := some 62) (v := ?_) (a' := ?_) #[true, true, true, true, true, false] rfl rfl (by kernel_rfl) (fun _ _ _ h => h) (Or.inl ⟨by rfl, ?_⟩) hHeld ?_ ?_
    rotate_left
    · rintro w' ⟨s0, s1, s2, s3, s4⟩
      go_simp
      with_reducible rfl
    rotate_left
    · simp only [Act.put, List.setIfInBounds_toArray, List.set_cons_zero, List.set_cons_succ, i64_w, i32_w]
      rfl
    refine pure_ (i := 5) (N := some 13) (v := ?_) (a' := ?_) #[true, true, true, true, true, true] rfl rfl (by kernel_rfl) (fun _ _ _ h => h) (Or.inl ⟨by rfl, ?_⟩) ?_ ?_
    rotate_left
    · intro w'
      go_simp
      with_reducible rfl
    rotate_left
    · simp only [Act.put, List.setIfInBounds_toArray, List.set_cons_zero, List.set_cons_succ, i64_w, i32_w]
      rfl
    refine done_ (by kernel_rfl) ?_
    obtain ⟨x3, x1, x14, x12, xb⟩ := hHeld
    have HB10 := Aside0.mk xb
    clear xb v3 v1 u14 u12
    generalize w7.drew = w9 at x3 x1 x14 x12 HB10 ⊢
    have hs := HS.out
    simp [C14.out, C12.out] at hs
    obtain ⟨hl_, hr_⟩ := hs
    have HL_ := Aside0.mk hl_
    have HR_ := Aside0.mk hr_
    clear hl_ hr_ HS C14 C12 H3 H1 HW
    go_wp2_with (first | (go_at_call 48; (with_reducible refine (KP.out _ _).mono ?_); rintro e w11 ⟨rfl, hb⟩; have n9_ := Aside0.mk (below_step HB10.out hb); clear HB10 hb; have HB10 := n9_; clear n9_) | (go_at_call 21; (with_reducible refine (KC.out _ _).mono ?_); rintro e w11 ⟨rfl, hb⟩; have n9_ := Aside0.mk (below_step HB10.out hb); clear HB10 hb; have HB10 := n9_; clear n9_))
    exact bodyPost_ret (results_list (rs := [.tmp 4, .tmp 5, .tmp 6]) rfl (by simp) (.tmp (.tmp (.tmp .nil)))) rfl ⟨by rw [← HL_.out, ← HR_.out]; rfl, HB10.out⟩
  · skip
    have b14 : (k14 == 6) = false := beq_eq_false_iff_ne.mpr c14
    have n14 : (k14 != 6) = true := by rw [bne, b14]; rfl
    have d14 : (!(k14 == 6)) = true := by rw [b14]; rfl
    have b12 : (k12 == 6) = true := beq_iff_eq.mpr c12
    have n12 : (k12 != 6) = false := by rw [bne, b12]; rfl
    have d12 : (!(k12 == 6)) = false := by rw [b12]; rfl
    have hr0 : wrap64 (wrap64 (wrap64 (room - td) - rim) - f3) = rest := by
      have h := HREST.out
      rw [H1.out c12, wrap_sub0] at h
      exact h
    have hw_ : wrap64 rest = rest := by rw [← HREST.out]; unfold wrap64; omega
    have HW := Aside0.mk hw_
    clear hw_
    have hs := HS.out
    unfold sides at hs
    clear HREST HS
    have HR0 := Aside0.mk hr0
    have HS := Aside0.mk hs
    have C14 := Aside0.mk c14
    have C12 := Aside0.mk c12
    clear hr0 hs c14 c12
    go_enter Try.func19, Try.ntmps19
    go_wp2_with (first | ((with_reducible refine gate_dst (N := 2) rfl ?_); refine box_event rfl (N := 2) rfl (cs := a) (t := 25) (by first | (go_simp; done) | (go_simp; rfl)) ?_; intro gs hg_ w1 hbx hb; have KS1 := Aside0.mk hbx; have HB1 := Aside0.mk (below_step HB.out hb); clear hg_ hbx hb) | (go_at_call 21; (with_reducible refine (K0.out _).mono ?_); rintro e w2 ⟨rfl, hb⟩; have KS2 := Aside0.mk (blk_below KS1.out hb); have HB2 := Aside0.mk (below_step HB1.out hb); clear hb) | ((with_reducible refine gate_dst (N := 17) rfl ?_); refine wpList_load_row rfl 25 _ rfl gs rfl 25 _ (0, 0) _ KS2.out Try.underlying25 rfl (by rw [hsz]; kernel_rfl) ?_) | (go_at_call 55; (with_reducible refine (KR.out _).mono ?_); rintro e w3 ⟨⟨high, rfl⟩, hb⟩; have KS3 := Aside0.mk (blk_below KS2.out hb); have HB3 := Aside0.mk (below_step HB2.out hb); clear hb) | ((with_reducible refine gate_dst (N := 22) rfl ?_); refine wpList_load_row rfl 25 _ rfl gs rfl 25 _ (0, 0) _ KS3.out Try.underlying25 rfl (by rw [hsz]; kernel_rfl) ?_) | (go_at_call 17; (with_reducible refine (KE.out _).mono ?_); rintro e w4 ⟨rfl, hb⟩; have KS4 := Aside0.mk (blk_below KS3.out hb); have HB4 := Aside0.mk (below_step HB3.out hb); clear hb) | ((with_reducible refine gate_dst (N := 9) rfl ?_); refine box_event rfl (N := 9) rfl (cs := #[.int .i64 0, .int .i64 0, .int .i64 0, .int .i64 0]) (t := 28) (by first | (go_simp; done) | (go_simp; rfl)) ?_; intro g9 hg_ w5 hbx hb; have K9_5 := Aside0.mk hbx; have B9 := Aside0.mk (show w.heap.size ≤ g9 by have := HB4.out.size; omega); have KS5 := Aside0.mk (blk_below KS4.out hb); have N9 : gs ≠ g9 := (by have h1 := blk_lt KS4.out; omega); have HB5 := Aside0.mk (below_step HB4.out hb); clear hg_ hbx hb; have z0 : w5.cell? ⟨g9, 0, none⟩ = some (.int .i64 0) := (blk_cell K9_5.out 0).trans rfl; have y0 := blk_frozen K9_5.out 0; have z1 : w5.cell? ⟨g9, 1, none⟩ = some (.int .i64 0) := (blk_cell K9_5.out 1).trans rfl; have y1 := blk_frozen K9_5.out 1; have z2 : w5.cell? ⟨g9, 2, none⟩ = some (.int .i64 0) := (blk_cell K9_5.out 2).trans rfl; have y2 := blk_frozen K9_5.out 2; have z3 : w5.cell? ⟨g9, 3, none⟩ = some (.int .i64 0) := (blk_cell K9_5.out 3).trans rfl; have y3 := blk_frozen K9_5.out 3) | ((with_reducible refine gate_dst (N := 25) rfl ?_); have KS6 : Aside0 (((((w5.setCell ⟨g9, 0, none⟩ (.int .i64 f0)).setCell ⟨g9, 1, none⟩ (.int .i64 f1)).setCell ⟨g9, 2, none⟩ (.int .i64 f2)).setCell ⟨g9, 3, none⟩ (.int .i64 f3)).heap[gs]? = _) := ⟨blk_far (blk_far (blk_far (blk_far KS5.out N9 _) N9 _) N9 _) N9 _⟩; have K9_6 : Aside0 (((((w5.setCell ⟨g9, 0, none⟩ (.int .i64 f0)).setCell ⟨g9, 1, none⟩ (.int .i64 f1)).setCell ⟨g9, 2, none⟩ (.int .i64 f2)).setCell ⟨g9, 3, none⟩ (.int .i64 f3)).heap[g9]? = some (.cells #[.int .i64 f0, .int .i64 f1, .int .i64 f2, .int .i64 f3] 28 (0, 0))) := ⟨blk_put (blk_put (blk_put (blk_put K9_5.out 0 (.int .i64 f0) rfl) 1 (.int .i64 f1) rfl) 2 (.int .i64 f2) rfl) 3 (.int .i64 f3) rfl⟩; have HB6 : Aside0 (Below w.heap.size w ((((w5.setCell ⟨g9, 0, none⟩ (.int .i64 f0)).setCell ⟨g9, 1, none⟩ (.int .i64 f1)).setCell ⟨g9, 2, none⟩ (.int .i64 f2)).setCell ⟨g9, 3, none⟩ (.int .i64 f3))) := ⟨(((HB5.out.setCell B9.out _).setCell B9.out _).setCell B9.out _).setCell B9.out _⟩; clear z0 z1 z2 z3 y0 y1 y2 y3; generalize ((((w5.setCell ⟨g9, 0, none⟩ (.int .i64 f0)).setCell ⟨g9, 1, none⟩ (.int .i64 f1)).setCell ⟨g9, 2, none⟩ (.int .i64 f2)).setCell ⟨g9, 3, none⟩ (.int .i64 f3)) = w6 at KS6 K9_6 HB6 ⊢; have v3 : w6.cell? ⟨g9, 3, none⟩ = some (.int .i64 f3) := (blk_cell K9_6.out 3).trans rfl; have v1 : w6.cell? ⟨g9, 1, none⟩ = some (.int .i64 f1) := (blk_cell K9_6.out 1).trans rfl; refine wpList_load_row rfl 25 _ rfl gs rfl 25 _ (0, 0) _ KS6.out Try.underlying25 rfl (by rw [hsz]; kernel_rfl) ?_) | (go_at_call 56; (with_reducible refine (KT.out _).mono ?_); rintro e w7 ⟨rfl, hb⟩; have KS7 := Aside0.mk (blk_below KS6.out hb); have K9_7 := Aside0.mk (blk_below K9_6.out hb); have HB7 := Aside0.mk (below_step HB6.out hb); clear hb; clear v3 v1; have v3 : w7.cell? ⟨g9, 3, none⟩ = some (.int .i64 f3) := (blk_cell K9_7.out 3).trans rfl; have v1 : w7.cell? ⟨g9, 1, none⟩ = some (.int .i64 f1) := (blk_cell K9_7.out 1).trans rfl; have u14 : w7.cell? ⟨gs, 28, none⟩ = some (.int .i64 k14) := (blk_cell KS7.out 28).trans A28.out; have u12 : w7.cell? ⟨gs, 24, none⟩ = some (.int .i64 k12) := (blk_cell KS7.out 24).trans A24.out))
    rw [HR0.out]
    refine start_ (n := 6) (S := fun w' => w'.cell? ⟨g9, 3, none⟩ = some (.int .i64 f3) ∧ w'.cell? ⟨g9, 1, none⟩ = some (.int .i64 f1) ∧ w'.cell? ⟨gs, 28, none⟩ = some (.int .i64 k14) ∧ w'.cell? ⟨gs, 24, none⟩ = some (.int .i64 k12) ∧ Below w.heap.size w w') (ds := []) #[false, false, false, false, false, false] (by kernel_rfl) rfl rfl ⟨v3, v1, u14, u12, below_drew1 HB7.out⟩ (fun hHeld => ?_)
    refine pure_ (i := 0) (N := some 59) (v := ?_) (a' := ?_) #[true, false, false, false, false, false] rfl rfl (by kernel_rfl) (fun _ _ _ h => h) (Or.inl ⟨by rfl, ?_⟩) ?_ ?_
    rotate_left
    · intro w'
      go_simp
      with_reducible rfl
    rotate_left
    · simp only [Act.put, List.setIfInBounds_toArray, List.set_cons_zero, List.set_cons_succ, i64_w, i32_w]
      rfl
    refine pure_ (i := 2) (N := some 61) (v := ?_) (a' := ?_) #[true, false, true, false, false, false] rfl rfl (by kernel_rfl) (fun _ _ _ h => h) (Or.inl ⟨by rfl, ?_⟩) ?_ ?_
    rotate_left
    · intro w'
      go_simp
      with_reducible rfl
    rotate_left
    · simp only [Act.put, List.setIfInBounds_toArray, List.set_cons_zero, List.set_cons_succ, i64_w, i32_w]
      rfl
    refine take_ (i := 1) (N := some 60) (v := ?_) (a' := ?_) #[true, true, true, false, false, false] rfl rfl (by kernel_rfl) (fun _ _ _ h => h) (Or.inl ⟨by rfl, ?_⟩) hHeld ?_ ?_
    rotate_left
    · rintro w' ⟨s0, s1, s2, s3, s4⟩
      go_simp
      with_reducible rfl
    rotate_left
    · simp only [Act.put, List.setIfInBounds_toArray, List.set_cons_zero, List.set_cons_succ, i64_w, i32_w]
      rfl
    refine pure_ (i := 4) (N := some 12) (v := ?_) (a' := ?_) #[true, true, true, false, true, false] rfl rfl (by kernel_rfl) (fun _ _ _ h => h) (Or.inl ⟨by rfl, ?_⟩) ?_ ?_
    rotate_left
    · intro w'
      go_simp
      with_reducible rfl
    rotate_left
    · simp only [Act.put, List.setIfInBounds_toArray, List.set_cons_zero, List.set_cons_succ, i64_w, i32_w]
      rfl
    refine take_ (i := 3) (N := some 62) (v := ?_) (a' := ?_) #[true, true, true, true, true, false] rfl rfl (by kernel_rfl) (fun _ _ _ h => h) (Or.inl ⟨by rfl, ?_⟩) hHeld ?_ ?_
    rotate_left
    · rintro w' ⟨s0, s1, s2, s3, s4⟩
      go_simp
      with_reducible rfl
    rotate_left
    · simp only [Act.put, List.setIfInBounds_toArray, List.set_cons_zero, List.set_cons_succ, i64_w, i32_w]
      rfl
    refine pure_ (i := 5) (N := some 13) (v := ?_) (a' := ?_) #[true, true, true, true, true, true] rfl rfl (by kernel_rfl) (fun _ _ _ h => h) (Or.inl ⟨by rfl, ?_⟩) ?_ ?_
    rotate_left
    · intro w'
      go_simp
      with_reducible rfl
    rotate_left
    · simp only [Act.put, List.setIfInBounds_toArray, List.set_cons_zero, List.set_cons_succ, i64_w, i32_w]
      rfl
    refine done_ (by kernel_rfl) ?_
    obtain ⟨x3, x1, x14, x12, xb⟩ := hHeld
    have HB10 := Aside0.mk xb
    clear xb v3 v1 u14 u12
    generalize w7.drew = w9 at x3 x1 x14 x12 HB10 ⊢
    have hs := HS.out
    simp [C14.out, C12.out, H1.out C12.out, HW.out] at hs
    obtain ⟨hl_, hr_⟩ := hs
    have HL_ := Aside0.mk hl_
    have HR_ := Aside0.mk hr_
    clear hl_ hr_ HS C14 C12 H3 H1 HW
    go_wp2_with (first | (go_at_call 48; (with_reducible refine (KP.out _ _).mono ?_); rintro e w11 ⟨rfl, hb⟩; have n9_ := Aside0.mk (below_step HB10.out hb); clear HB10 hb; have HB10 := n9_; clear n9_) | (go_at_call 21; (with_reducible refine (KC.out _ _).mono ?_); rintro e w11 ⟨rfl, hb⟩; have n9_ := Aside0.mk (below_step HB10.out hb); clear HB10 hb; have HB10 := n9_; clear n9_))
    exact bodyPost_ret (results_list (rs := [.tmp 4, .tmp 5, .tmp 6]) rfl (by simp) (.tmp (.tmp (.tmp .nil)))) rfl ⟨by rw [← HL_.out, ← HR_.out]; rfl, HB10.out⟩
  · skip
    have b14 : (k14 == 6) = false := beq_eq_false_iff_ne.mpr c14
    have n14 : (k14 != 6) = true := by rw [bne, b14]; rfl
    have d14 : (!(k14 == 6)) = true := by rw [b14]; rfl
    have b12 : (k12 == 6) = false := beq_eq_false_iff_ne.mpr c12
    have n12 : (k12 != 6) = true := by rw [bne, b12]; rfl
    have d12 : (!(k12 == 6)) = true := by rw [b12]; rfl
    have hr0 : wrap64 (wrap64 (wrap64 (wrap64 (room - td) - rim) - f3) - f1) = rest := by
      have h := HREST.out
      exact h
    have hw_ : wrap64 rest = rest := by rw [← HREST.out]; unfold wrap64; omega
    have HW := Aside0.mk hw_
    clear hw_
    have hs := HS.out
    unfold sides at hs
    clear HREST HS
    have HR0 := Aside0.mk hr0
    have HS := Aside0.mk hs
    have C14 := Aside0.mk c14
    have C12 := Aside0.mk c12
    clear hr0 hs c14 c12
    go_enter Try.func19, Try.ntmps19
    go_wp2_with (first | ((with_reducible refine gate_dst (N := 2) rfl ?_); refine box_event rfl (N := 2) rfl (cs := a) (t := 25) (by first | (go_simp; done) | (go_simp; rfl)) ?_; intro gs hg_ w1 hbx hb; have KS1 := Aside0.mk hbx; have HB1 := Aside0.mk (below_step HB.out hb); clear hg_ hbx hb) | (go_at_call 21; (with_reducible refine (K0.out _).mono ?_); rintro e w2 ⟨rfl, hb⟩; have KS2 := Aside0.mk (blk_below KS1.out hb); have HB2 := Aside0.mk (below_step HB1.out hb); clear hb) | ((with_reducible refine gate_dst (N := 17) rfl ?_); refine wpList_load_row rfl 25 _ rfl gs rfl 25 _ (0, 0) _ KS2.out Try.underlying25 rfl (by rw [hsz]; kernel_rfl) ?_) | (go_at_call 55; (with_reducible refine (KR.out _).mono ?_); rintro e w3 ⟨⟨high, rfl⟩, hb⟩; have KS3 := Aside0.mk (blk_below KS2.out hb); have HB3 := Aside0.mk (below_step HB2.out hb); clear hb) | ((with_reducible refine gate_dst (N := 22) rfl ?_); refine wpList_load_row rfl 25 _ rfl gs rfl 25 _ (0, 0) _ KS3.out Try.underlying25 rfl (by rw [hsz]; kernel_rfl) ?_) | (go_at_call 17; (with_reducible refine (KE.out _).mono ?_); rintro e w4 ⟨rfl, hb⟩; have KS4 := Aside0.mk (blk_below KS3.out hb); have HB4 := Aside0.mk (below_step HB3.out hb); clear hb) | ((with_reducible refine gate_dst (N := 9) rfl ?_); refine box_event rfl (N := 9) rfl (cs := #[.int .i64 0, .int .i64 0, .int .i64 0, .int .i64 0]) (t := 28) (by first | (go_simp; done) | (go_simp; rfl)) ?_; intro g9 hg_ w5 hbx hb; have K9_5 := Aside0.mk hbx; have B9 := Aside0.mk (show w.heap.size ≤ g9 by have := HB4.out.size; omega); have KS5 := Aside0.mk (blk_below KS4.out hb); have N9 : gs ≠ g9 := (by have h1 := blk_lt KS4.out; omega); have HB5 := Aside0.mk (below_step HB4.out hb); clear hg_ hbx hb; have z0 : w5.cell? ⟨g9, 0, none⟩ = some (.int .i64 0) := (blk_cell K9_5.out 0).trans rfl; have y0 := blk_frozen K9_5.out 0; have z1 : w5.cell? ⟨g9, 1, none⟩ = some (.int .i64 0) := (blk_cell K9_5.out 1).trans rfl; have y1 := blk_frozen K9_5.out 1; have z2 : w5.cell? ⟨g9, 2, none⟩ = some (.int .i64 0) := (blk_cell K9_5.out 2).trans rfl; have y2 := blk_frozen K9_5.out 2; have z3 : w5.cell? ⟨g9, 3, none⟩ = some (.int .i64 0) := (blk_cell K9_5.out 3).trans rfl; have y3 := blk_frozen K9_5.out 3) | ((with_reducible refine gate_dst (N := 25) rfl ?_); have KS6 : Aside0 (((((w5.setCell ⟨g9, 0, none⟩ (.int .i64 f0)).setCell ⟨g9, 1, none⟩ (.int .i64 f1)).setCell ⟨g9, 2, none⟩ (.int .i64 f2)).setCell ⟨g9, 3, none⟩ (.int .i64 f3)).heap[gs]? = _) := ⟨blk_far (blk_far (blk_far (blk_far KS5.out N9 _) N9 _) N9 _) N9 _⟩; have K9_6 : Aside0 (((((w5.setCell ⟨g9, 0, none⟩ (.int .i64 f0)).setCell ⟨g9, 1, none⟩ (.int .i64 f1)).setCell ⟨g9, 2, none⟩ (.int .i64 f2)).setCell ⟨g9, 3, none⟩ (.int .i64 f3)).heap[g9]? = some (.cells #[.int .i64 f0, .int .i64 f1, .int .i64 f2, .int .i64 f3] 28 (0, 0))) := ⟨blk_put (blk_put (blk_put (blk_put K9_5.out 0 (.int .i64 f0) rfl) 1 (.int .i64 f1) rfl) 2 (.int .i64 f2) rfl) 3 (.int .i64 f3) rfl⟩; have HB6 : Aside0 (Below w.heap.size w ((((w5.setCell ⟨g9, 0, none⟩ (.int .i64 f0)).setCell ⟨g9, 1, none⟩ (.int .i64 f1)).setCell ⟨g9, 2, none⟩ (.int .i64 f2)).setCell ⟨g9, 3, none⟩ (.int .i64 f3))) := ⟨(((HB5.out.setCell B9.out _).setCell B9.out _).setCell B9.out _).setCell B9.out _⟩; clear z0 z1 z2 z3 y0 y1 y2 y3; generalize ((((w5.setCell ⟨g9, 0, none⟩ (.int .i64 f0)).setCell ⟨g9, 1, none⟩ (.int .i64 f1)).setCell ⟨g9, 2, none⟩ (.int .i64 f2)).setCell ⟨g9, 3, none⟩ (.int .i64 f3)) = w6 at KS6 K9_6 HB6 ⊢; have v3 : w6.cell? ⟨g9, 3, none⟩ = some (.int .i64 f3) := (blk_cell K9_6.out 3).trans rfl; have v1 : w6.cell? ⟨g9, 1, none⟩ = some (.int .i64 f1) := (blk_cell K9_6.out 1).trans rfl; refine wpList_load_row rfl 25 _ rfl gs rfl 25 _ (0, 0) _ KS6.out Try.underlying25 rfl (by rw [hsz]; kernel_rfl) ?_) | (go_at_call 56; (with_reducible refine (KT.out _).mono ?_); rintro e w7 ⟨rfl, hb⟩; have KS7 := Aside0.mk (blk_below KS6.out hb); have K9_7 := Aside0.mk (blk_below K9_6.out hb); have HB7 := Aside0.mk (below_step HB6.out hb); clear hb; clear v3 v1; have v3 : w7.cell? ⟨g9, 3, none⟩ = some (.int .i64 f3) := (blk_cell K9_7.out 3).trans rfl; have v1 : w7.cell? ⟨g9, 1, none⟩ = some (.int .i64 f1) := (blk_cell K9_7.out 1).trans rfl; have u14 : w7.cell? ⟨gs, 28, none⟩ = some (.int .i64 k14) := (blk_cell KS7.out 28).trans A28.out; have u12 : w7.cell? ⟨gs, 24, none⟩ = some (.int .i64 k12) := (blk_cell KS7.out 24).trans A24.out))
    rw [HR0.out]
    refine start_ (n := 6) (S := fun w' => w'.cell? ⟨g9, 3, none⟩ = some (.int .i64 f3) ∧ w'.cell? ⟨g9, 1, none⟩ = some (.int .i64 f1) ∧ w'.cell? ⟨gs, 28, none⟩ = some (.int .i64 k14) ∧ w'.cell? ⟨gs, 24, none⟩ = some (.int .i64 k12) ∧ Below w.heap.size w w') (ds := []) #[false, false, false, false, false, false] (by kernel_rfl) rfl rfl ⟨v3, v1, u14, u12, below_drew1 HB7.out⟩ (fun hHeld => ?_)
    refine pure_ (i := 0) (N := some 59) (v := ?_) (a' := ?_) #[true, false, false, false, false, false] rfl rfl (by kernel_rfl) (fun _ _ _ h => h) (Or.inl ⟨by rfl, ?_⟩) ?_ ?_
    rotate_left
    · intro w'
      go_simp
      with_reducible rfl
    rotate_left
    · simp only [Act.put, List.setIfInBounds_toArray, List.set_cons_zero, List.set_cons_succ, i64_w, i32_w]
      rfl
    refine pure_ (i := 2) (N := some 61) (v := ?_) (a' := ?_) #[true, false, true, false, false, false] rfl rfl (by kernel_rfl) (fun _ _ _ h => h) (Or.inl ⟨by rfl, ?_⟩) ?_ ?_
    rotate_left
    · intro w'
      go_simp
      with_reducible rfl
    rotate_left
    · simp only [Act.put, List.setIfInBounds_toArray, List.set_cons_zero, List.set_cons_succ, i64_w, i32_w]
      rfl
    refine take_ (i := 1) (N := some 60) (v := ?_) (a' := ?_) #[true, true, true, false, false, false] rfl rfl (by kernel_rfl) (fun _ _ _ h => h) (Or.inl ⟨by rfl, ?_⟩) hHeld ?_ ?_
    rotate_left
    · rintro w' ⟨s0, s1, s2, s3, s4⟩
      go_simp
      with_reducible rfl
    rotate_left
    · simp only [Act.put, List.setIfInBounds_toArray, List.set_cons_zero, List.set_cons_succ, i64_w, i32_w]
      rfl
    refine pure_ (i := 4) (N := some 12) (v := ?_) (a' := ?_) #[true, true, true, false, true, false] rfl rfl (by kernel_rfl) (fun _ _ _ h => h) (Or.inl ⟨by rfl, ?_⟩) ?_ ?_
    rotate_left
    · intro w'
      go_simp
      with_reducible rfl
    rotate_left
    · simp only [Act.put, List.setIfInBounds_toArray, List.set_cons_zero, List.set_cons_succ, i64_w, i32_w]
      rfl
    refine take_ (i := 3) (N := some 62) (v := ?_) (a' := ?_) #[true, true, true, true, true, false] rfl rfl (by kernel_rfl) (fun _ _ _ h => h) (Or.inl ⟨by rfl, ?_⟩) hHeld ?_ ?_
    rotate_left
    · rintro w' ⟨s0, s1, s2, s3, s4⟩
      go_simp
      with_reducible rfl
    rotate_left
    · simp only [Act.put, List.setIfInBounds_toArray, List.set_cons_zero, List.set_cons_succ, i64_w, i32_w]
      rfl
    refine pure_ (i := 5) (N := some 13) (v := ?_) (a' := ?_) #[true, true, true, true, true, true] rfl rfl (by kernel_rfl) (fun _ _ _ h => h) (Or.inl ⟨by rfl, ?_⟩) ?_ ?_
    rotate_left
    · intro w'
      go_simp
      with_reducible rfl
    rotate_left
    · simp only [Act.put, List.setIfInBounds_toArray, List.set_cons_zero, List.set_cons_succ, i64_w, i32_w]
      rfl
    refine done_ (by kernel_rfl) ?_
    obtain ⟨x3, x1, x14, x12, xb⟩ := hHeld
    have HB10 := Aside0.mk xb
    clear xb v3 v1 u14 u12
    generalize w7.drew = w9 at x3 x1 x14 x12 HB10 ⊢
    have hs := HS.out
    simp [C14.out, C12.out] at hs
    obtain ⟨hl_, hr_⟩ := hs
    have HL_ := Aside0.mk hl_
    have HR_ := Aside0.mk hr_
    clear hl_ hr_ HS C14 C12 H3 H1 HW
    go_wp2_with (first | (go_at_call 48; (with_reducible refine (KP.out _ _).mono ?_); rintro e w11 ⟨rfl, hb⟩; have n9_ := Aside0.mk (below_step HB10.out hb); clear HB10 hb; have HB10 := n9_; clear n9_) | (go_at_call 21; (with_reducible refine (KC.out _ _).mono ?_); rintro e w11 ⟨rfl, hb⟩; have n9_ := Aside0.mk (below_step HB10.out hb); clear HB10 hb; have HB10 := n9_; clear n9_))
    exact bodyPost_ret (results_list (rs := [.tmp 4, .tmp 5, .tmp 6]) rfl (by simp) (.tmp (.tmp (.tmp .nil)))) rfl ⟨by rw [← HL_.out, ← HR_.out]; rfl, HB10.out⟩
end Go.Proofs.Ytaejmgdpnnhpmaa.QSty
