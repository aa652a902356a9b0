/- The closed fact painted and the law PaintFrags, walked by hand. -/
import Derived.Test.YtaejmgdpnnhpmaaFrFrag
import Derived.Test.YtaejmgdpnnhpmaaFrCmds2
namespace Go.Proofs.Ytaejmgdpnnhpmaa.QSty
open Go.RowKit Go.Proofs.YtaejmgdpnnhpmaaW.PrintWords Go.Proofs.YtaejmgdpnnhpmaaW.PrintLast Go.Proofs.YtaejmgdpnnhpmaaW.PrintMore
set_option linter.unusedVariables false
set_option linter.unusedSimpArgs false
def pxs : List Int := ((List.replicate 118 (0 : Int)).set 72 5).set 73 255
def pf0 : Fr := ⟨0, 0, 0, 0, 0, 5, 6, ⟨#[]⟩⟩
theorem painted_eq : cmdsOf pf0 2 pxs = [cmdS 0 0 0 5 6 255] := by
  have hv : ¬ pxs.getD 67 0 = 1 := by decide
  have e36 : pxs.getD 73 0 = 255 := by decide
  have n47 : pxs.getD 47 0 = 0 := by decide
  have n49 : pxs.getD 49 0 = 0 := by decide
  have n51 : pxs.getD 51 0 = 0 := by decide
  have n53 : pxs.getD 53 0 = 0 := by decide
  have s0 : ∀ x y w h : Int, onef 0 x y w h 0 = [] := fun x y w h => by
    have h0 : bits .and .i64 0 255 = 0 := by rw [and255]; rfl
    unfold onef seen
    rw [h0]
    simp
  have s1 : onef 0 0 0 5 6 255 = [cmdS 0 0 0 5 6 255] := by
    have h0 : bits .and .i64 255 255 = 255 := by rw [and255]; rfl
    unfold onef seen
    rw [h0]
    simp
  unfold cmdsOf
  rw [if_neg hv, if_neg (by decide)]
  unfold fillsOf
  simp only [e36, n47, n49, n51, n53, pf0, s0, s1]
  simp
theorem cmds_len (f : Fr) (kind : Int) (xs : List Int) : (cmdsOf f kind xs).length ≤ 1000000 := by
  have h1 := onef_len f.f1 f.x f.y f.w f.h (xs.getD 73 0)
  have h2 := onef_len f.f1 f.x f.y f.w (top_ xs) (xs.getD 47 0)
  have h3 := onef_len f.f1 (wrap64 (wrap64 (f.x + f.w) - right_ xs)) (wrap64 (f.y + top_ xs)) (right_ xs) (wrap64 (wrap64 (f.h - top_ xs) - bot_ xs)) (xs.getD 49 0)
  have h4 := onef_len f.f1 f.x (wrap64 (wrap64 (f.y + f.h) - bot_ xs)) f.w (bot_ xs) (xs.getD 51 0)
  have h5 := onef_len f.f1 f.x (wrap64 (f.y + top_ xs)) (left_ xs) (wrap64 (wrap64 (f.h - top_ xs) - bot_ xs)) (xs.getD 53 0)
  unfold cmdsOf
  split
  · simp
  · split
    · split <;> simp
    · unfold fillsOf
      simp only [List.length_append, List.length_nil]
      split
      · simp only [List.length_nil]; omega
      · omega
set_option maxHeartbeats 8000000 in
set_option maxRecDepth 100000 in
theorem painted_yes (w : World) : Calls Try.prog 22 #[] w fun e w' => e = .returned (.bool true) ∧ Below w.heap.size w w' := by
  have C := fun w => paint_Frag.calls pf0 2 pxs (by rfl) w
  rw [painted_eq] at C
  obtain ⟨sv, hsv⟩ : ∃ v, sty pxs = v := ⟨_, rfl⟩
  have HV := Aside0.mk hsv
  obtain ⟨fv, hfv⟩ : ∃ v, Value.agg (frc pf0) = v := ⟨_, rfl⟩
  have HFV := Aside0.mk hfv
  rw [hsv, hfv] at C
  have K := Aside0.mk C
  clear C hsv hfv
  go_enter Try.func22, Try.ntmps22
  go_wp2_with (first
    | ((with_reducible refine gate_dst (N := 2) rfl ?_); (refine Kd.event_run rfl (v := fv) (w1 := w) ?hr ?_; (case hr => rw [← HFV.out]; kernel_rfl)))
    | ((with_reducible refine gate_dst (N := 4) rfl ?_); (refine Kd.event_run rfl (v := sv) (w1 := w) ?hr ?_; (case hr => rw [← HV.out]; kernel_rfl)))
    | (go_at_call 24; (with_reducible refine (K.out _).mono ?_); rintro e w2 ⟨v0, rfl, hr, hb⟩; obtain ⟨A0, c0, hv0, hle0, hC0⟩ := Kd.R_reads hr; subst hv0; obtain ⟨ad, hA0, h0, h1, h2, h3, h4, h5, h6, h7, h8⟩ := at_T45 hC0 0 (by decide) (by decide); subst hA0; have HB2 := Aside0.mk hb; have c4 : w2.cell? ⟨ad.block, ad.off + 4, none⟩ = some (.int .i64 5) := h4; have c5 : w2.cell? ⟨ad.block, ad.off + 5, none⟩ = some (.int .i64 6) := h5; clear hb hr hC0 h0 h1 h2 h3 h6 h7 h8))
  go_ret
  exact ⟨rfl, HB2.out⟩
set_option maxHeartbeats 8000000 in
set_option maxRecDepth 100000 in
theorem PaintFrags (f : Fr) (kind : Int) (xs : List Int) (hl : xs.length = 118) (w : World) :
    Calls Try.prog 5 #[.agg (frc f), .int .i64 kind, sty xs] w fun e w' => e = .returned (.bool true) ∧ Below w.heap.size w w' := by
  obtain ⟨f', hf'⟩ : ∃ g : Fr, (⟨f.f0, f.f1, f.f2, cut f.x, cut f.y, cut f.w, cut f.h, f.text⟩ : Fr) = g := ⟨_, rfl⟩
  have CF := fun w => paint_Frag.calls f' kind xs hl w
  have CR := fun w => ref_FragCmds.calls f' kind xs hl w
  have hE : api_Cmd.f (cmdsOf f' kind xs) (cmdsOf f' kind xs) = some true := by
    unfold api_Cmd.f
    rw [if_pos (cmds_len f' kind xs), if_pos rfl]
  obtain ⟨L, hL⟩ : ∃ L, cmdsOf f' kind xs = L := ⟨_, rfl⟩
  rw [hL] at CF CR hE
  clear hL
  unfold sty at *
  obtain ⟨a, ha⟩ : ∃ a, (nums .i64 xs).toArray = a := ⟨_, rfl⟩
  have hsz : a.size = 118 := by rw [← ha]; simp [nums, hl]
  rw [ha] at CF CR ⊢
  clear ha hl
  obtain ⟨F, hF⟩ : ∃ F, frc f = F := ⟨_, rfl⟩
  obtain ⟨G, hG⟩ : ∃ G, frc f' = G := ⟨_, rfl⟩
  have hGs : G.size = 8 := by rw [← hG]; rfl
  rw [hG] at CF CR
  have AF3 : Aside0 (F[3]? = some (.int .i64 f.x)) := ⟨by rw [← hF]; rfl⟩
  have AF4 : Aside0 (F[4]? = some (.int .i64 f.y)) := ⟨by rw [← hF]; rfl⟩
  have AF5 : Aside0 (F[5]? = some (.int .i64 f.w)) := ⟨by rw [← hF]; rfl⟩
  have AF6 : Aside0 (F[6]? = some (.int .i64 f.h)) := ⟨by rw [← hF]; rfl⟩
  have HFG : Aside0 ((((F.setIfInBounds 3 (.int .i64 (cut f.x))).setIfInBounds 4 (.int .i64 (cut f.y))).setIfInBounds 5 (.int .i64 (cut f.w))).setIfInBounds 6 (.int .i64 (cut f.h)) = G) := ⟨by rw [← hF, ← hG, ← hf']; rfl⟩
  rw [hF]
  clear hF hG hf'
  obtain ⟨i3, hi3⟩ : ∃ z, f.x = z := ⟨_, rfl⟩
  rw [hi3] at AF3 HFG
  clear hi3
  have CC3 := fun w => (clerestoryref3_Cut.calls i3 _ w (cut_b i3)).mono (fun _ _ h => (⟨h.1, h.2.below⟩ : _ ∧ Below w.heap.size w _))
  obtain ⟨k3, hk3⟩ : ∃ z, cut i3 = z := ⟨_, rfl⟩
  rw [hk3] at CC3 HFG
  clear hk3
  have KC3 := Aside0.mk CC3
  clear CC3
  obtain ⟨i4, hi4⟩ : ∃ z, f.y = z := ⟨_, rfl⟩
  rw [hi4] at AF4 HFG
  clear hi4
  have CC4 := fun w => (clerestoryref3_Cut.calls i4 _ w (cut_b i4)).mono (fun _ _ h => (⟨h.1, h.2.below⟩ : _ ∧ Below w.heap.size w _))
  obtain ⟨k4, hk4⟩ : ∃ z, cut i4 = z := ⟨_, rfl⟩
  rw [hk4] at CC4 HFG
  clear hk4
  have KC4 := Aside0.mk CC4
  clear CC4
  obtain ⟨i5, hi5⟩ : ∃ z, f.w = z := ⟨_, rfl⟩
  rw [hi5] at AF5 HFG
  clear hi5
  have CC5 := fun w => (clerestoryref3_Cut.calls i5 _ w (cut_b i5)).mono (fun _ _ h => (⟨h.1, h.2.below⟩ : _ ∧ Below w.heap.size w _))
  obtain ⟨k5, hk5⟩ : ∃ z, cut i5 = z := ⟨_, rfl⟩
  rw [hk5] at CC5 HFG
  clear hk5
  have KC5 := Aside0.mk CC5
  clear CC5
  obtain ⟨i6, hi6⟩ : ∃ z, f.h = z := ⟨_, rfl⟩
  rw [hi6] at AF6 HFG
  clear hi6
  have CC6 := fun w => (clerestoryref3_Cut.calls i6 _ w (cut_b i6)).mono (fun _ _ h => (⟨h.1, h.2.below⟩ : _ ∧ Below w.heap.size w _))
  obtain ⟨k6, hk6⟩ : ∃ z, cut i6 = z := ⟨_, rfl⟩
  rw [hk6] at CC6 HFG
  clear hk6
  have KC6 := Aside0.mk CC6
  clear CC6
  have KF := Aside0.mk CF
  have KR := Aside0.mk CR
  have HE := Aside0.mk hE
  clear CF CR hE
  have HB := Aside0.mk (Below.refl w.heap.size w)
  go_enter Try.func5, Try.ntmps5
  go_wp2_with (first | ((with_reducible refine gate_dst (N := 3) rfl ?_); refine box_event rfl (N := 3) rfl (cs := F) (t := 41) (by first | (go_simp; done) | (go_simp; rfl)) ?_; intro gf hg_ w1 hbx hb; have Kgf_1 := Aside0.mk hbx; have Bgf := Aside0.mk (show w.heap.size ≤ gf by have := HB.out.size; omega); have HB1 := Aside0.mk (below_step HB.out hb); clear hg_ hbx hb) | ((with_reducible refine gate_dst (N := 5) rfl ?_); refine box_event rfl (N := 5) rfl (cs := a) (t := 25) (by first | (go_simp; done) | (go_simp; rfl)) ?_; intro gs hg_ w2 hbx hb; have Kgs_2 := Aside0.mk hbx; have Bgs := Aside0.mk (show w.heap.size ≤ gs by have := HB1.out.size; omega); have Kgf_2 := Aside0.mk (blk_below Kgf_1.out hb); have Ngfgs : gf ≠ gs := (by have h1 := blk_lt Kgf_1.out; omega); have HB2 := Aside0.mk (below_step HB1.out hb); clear hg_ hbx hb))
  refine start_ (n := 20) (S := fun w' => w'.cell? ⟨gf, 3, none⟩ = some (.int .i64 i3) ∧ w'.cell? ⟨gf, 4, none⟩ = some (.int .i64 i4) ∧ w'.cell? ⟨gf, 5, none⟩ = some (.int .i64 i5) ∧ w'.cell? ⟨gf, 6, none⟩ = some (.int .i64 i6) ∧ w'.heap[gf]? = some (.cells F 41 (0, 0)) ∧ w'.heap[gs]? = some (.cells a 25 (0, 0)) ∧ Below w.heap.size w w') (ds := [13, 15, 17, 19]) #[false, false, false, false, false, false, false, false, false, false, false, false, false, false, false, false, false, false, false, false] (by kernel_rfl) rfl rfl ⟨(blk_cell Kgf_2.out 3).trans AF3.out, (blk_cell Kgf_2.out 4).trans AF4.out, (blk_cell Kgf_2.out 5).trans AF5.out, (blk_cell Kgf_2.out 6).trans AF6.out, Kgf_2.out, Kgs_2.out, below_drew1 HB2.out⟩ (fun hHeld => ?_)
  refine pure_ (i := 0) (N := some 7) (v := ?_) (a' := ?_) #[true, false, false, false, false, false, false, false, false, false, false, false, false, false, false, false, false, false, false, false] rfl rfl (by kernel_rfl) (fun _ _ _ h => h) (Or.inl ⟨by rfl, ?_⟩) ?_ ?_
  rotate_left
  · intro w'
    go_simp
    with_reducible rfl
  rotate_left
  · simp only [Act.put, List.setIfInBounds_toArray, List.set_cons_zero, List.set_cons_succ, i64_w, i32_w]
    rfl
  refine pure_ (i := 3) (N := some 10) (v := ?_) (a' := ?_) #[true, false, false, true, false, false, false, false, false, false, false, false, false, false, false, false, false, false, false, false] rfl rfl (by kernel_rfl) (fun _ _ _ h => h) (Or.inl ⟨by rfl, ?_⟩) ?_ ?_
  rotate_left
  · intro w'
    go_simp
    with_reducible rfl
  rotate_left
  · simp only [Act.put, List.setIfInBounds_toArray, List.set_cons_zero, List.set_cons_succ, i64_w, i32_w]
    rfl
  refine pure_ (i := 6) (N := some 13) (v := ?_) (a' := ?_) #[true, false, false, true, false, false, true, false, false, false, false, false, false, false, false, false, false, false, false, false] rfl rfl (by kernel_rfl) (fun _ _ _ h => h) (Or.inl ⟨by rfl, ?_⟩) ?_ ?_
  rotate_left
  · intro w'
    go_simp
    with_reducible rfl
  rotate_left
  · simp only [Act.put, List.setIfInBounds_toArray, List.set_cons_zero, List.set_cons_succ, i64_w, i32_w]
    rfl
  refine pure_ (i := 9) (N := some 16) (v := ?_) (a' := ?_) #[true, false, false, true, false, false, true, false, false, true, false, false, false, false, false, false, false, false, false, false] rfl rfl (by kernel_rfl) (fun _ _ _ h => h) (Or.inl ⟨by rfl, ?_⟩) ?_ ?_
  rotate_left
  · intro w'
    go_simp
    with_reducible rfl
  rotate_left
  · simp only [Act.put, List.setIfInBounds_toArray, List.set_cons_zero, List.set_cons_succ, i64_w, i32_w]
    rfl
  refine take_ (i := 1) (N := some 8) (v := ?_) (a' := ?_) #[true, true, false, true, false, false, true, false, false, true, false, false, false, false, false, false, false, false, false, false] rfl rfl (by kernel_rfl) (fun _ _ _ h => h) (Or.inl ⟨by rfl, ?_⟩) hHeld ?_ ?_
  rotate_left
  · rintro w' ⟨s0, s1, s2, s3, s4, s5, s6⟩
    go_simp
    with_reducible rfl
  rotate_left
  · simp only [Act.put, List.setIfInBounds_toArray, List.set_cons_zero, List.set_cons_succ, i64_w, i32_w]
    rfl
  refine take_ (i := 4) (N := some 11) (v := ?_) (a' := ?_) #[true, true, false, true, true, false, true, false, false, true, false, false, false, false, false, false, false, false, false, false] rfl rfl (by kernel_rfl) (fun _ _ _ h => h) (Or.inl ⟨by rfl, ?_⟩) hHeld ?_ ?_
  rotate_left
  · rintro w' ⟨s0, s1, s2, s3, s4, s5, s6⟩
    go_simp
    with_reducible rfl
  rotate_left
  · simp only [Act.put, List.setIfInBounds_toArray, List.set_cons_zero, List.set_cons_succ, i64_w, i32_w]
    rfl
  refine take_ (i := 7) (N := some 14) (v := ?_) (a' := ?_) #[true, true, false, true, true, false, true, true, false, true, false, false, false, false, false, false, false, false, false, false] rfl rfl (by kernel_rfl) (fun _ _ _ h => h) (Or.inl ⟨by rfl, ?_⟩) hHeld ?_ ?_
  rotate_left
  · rintro w' ⟨s0, s1, s2, s3, s4, s5, s6⟩
    go_simp
    with_reducible rfl
  rotate_left
  · simp only [Act.put, List.setIfInBounds_toArray, List.set_cons_zero, List.set_cons_succ, i64_w, i32_w]
    rfl
  refine take_ (i := 10) (N := some 17) (v := ?_) (a' := ?_) #[true, true, false, true, true, false, true, true, false, true, true, false, false, false, false, false, false, false, false, false] rfl rfl (by kernel_rfl) (fun _ _ _ h => h) (Or.inl ⟨by rfl, ?_⟩) hHeld ?_ ?_
  rotate_left
  · rintro w' ⟨s0, s1, s2, s3, s4, s5, s6⟩
    go_simp
    with_reducible rfl
  rotate_left
  · simp only [Act.put, List.setIfInBounds_toArray, List.set_cons_zero, List.set_cons_succ, i64_w, i32_w]
    rfl
  refine one_ (i := 2) (N := some 9) #[true, true, true, true, true, false, true, true, false, true, true, false, false, false, false, false, false, false, false, false] rfl rfl (by kernel_rfl) (by decide) (fun K hK => ?_)
  refine goes_ Try.func21 (by kernel_rfl) rfl #[.int .i64 i3] (by rfl) rfl rfl (by simp only [List.map_toArray, List.map_cons, List.map_nil]; rfl) ?_
  with_reducible refine (KC3.out _).mono ?_
  rintro e w7 ⟨rfl, hb⟩
  refine ⟨_, rfl, ?_⟩
  refine hK.out _ _ ⟨(blk_cell (blk_below hHeld.2.2.2.2.1 hb) 3).trans AF3.out, (blk_cell (blk_below hHeld.2.2.2.2.1 hb) 4).trans AF4.out, (blk_cell (blk_below hHeld.2.2.2.2.1 hb) 5).trans AF5.out, (blk_cell (blk_below hHeld.2.2.2.2.1 hb) 6).trans AF6.out, (blk_below hHeld.2.2.2.2.1 hb), (blk_below hHeld.2.2.2.2.2.1 hb), (below_step hHeld.2.2.2.2.2.2 hb)⟩ (fun hHeld => ?_)
  clear hK K
  refine norm_ (a' := ?_) ?_ ?_
  rotate_left
  · show Act.put _ (some 9) _ = _
    simp only [Act.put, List.setIfInBounds_toArray, List.set_cons_zero, List.set_cons_succ, i64_w, i32_w]
    rfl
  refine pure_ (i := 12) (N := some 19) (v := ?_) (a' := ?_) #[true, true, true, true, true, false, true, true, false, true, true, false, true, false, false, false, false, false, false, false] rfl rfl (by kernel_rfl) (fun _ _ _ h => h) (Or.inl ⟨by rfl, ?_⟩) ?_ ?_
  rotate_left
  · intro w'
    go_simp
    with_reducible rfl
  rotate_left
  · simp only [Act.put, List.setIfInBounds_toArray, List.set_cons_zero, List.set_cons_succ, i64_w, i32_w]
    rfl
  refine one_ (i := 5) (N := some 12) #[true, true, true, true, true, true, true, true, false, true, true, false, true, false, false, false, false, false, false, false] rfl rfl (by kernel_rfl) (by decide) (fun K hK => ?_)
  refine goes_ Try.func21 (by kernel_rfl) rfl #[.int .i64 i4] (by rfl) rfl rfl (by simp only [List.map_toArray, List.map_cons, List.map_nil]; rfl) ?_
  with_reducible refine (KC4.out _).mono ?_
  rintro e w7 ⟨rfl, hb⟩
  refine ⟨_, rfl, ?_⟩
  refine hK.out _ _ ⟨(blk_cell (blk_below hHeld.2.2.2.2.1 hb) 3).trans AF3.out, (blk_cell (blk_below hHeld.2.2.2.2.1 hb) 4).trans AF4.out, (blk_cell (blk_below hHeld.2.2.2.2.1 hb) 5).trans AF5.out, (blk_cell (blk_below hHeld.2.2.2.2.1 hb) 6).trans AF6.out, (blk_below hHeld.2.2.2.2.1 hb), (blk_below hHeld.2.2.2.2.2.1 hb), (below_step hHeld.2.2.2.2.2.2 hb)⟩ (fun hHeld => ?_)
  clear hK K
  refine norm_ (a' := ?_) ?_ ?_
  rotate_left
  · show Act.put _ (some 12) _ = _
    simp only [Act.put, List.setIfInBounds_toArray, List.set_cons_zero, List.set_cons_succ, i64_w, i32_w]
    rfl
  refine one_ (i := 8) (N := some 15) #[true, true, true, true, true, true, true, true, true, true, true, false, true, false, false, false, false, false, false, false] rfl rfl (by kernel_rfl) (by decide) (fun K hK => ?_)
  refine goes_ Try.func21 (by kernel_rfl) rfl #[.int .i64 i5] (by rfl) rfl rfl (by simp only [List.map_toArray, List.map_cons, List.map_nil]; rfl) ?_
  with_reducible refine (KC5.out _).mono ?_
  rintro e w7 ⟨rfl, hb⟩
  refine ⟨_, rfl, ?_⟩
  refine hK.out _ _ ⟨(blk_cell (blk_below hHeld.2.2.2.2.1 hb) 3).trans AF3.out, (blk_cell (blk_below hHeld.2.2.2.2.1 hb) 4).trans AF4.out, (blk_cell (blk_below hHeld.2.2.2.2.1 hb) 5).trans AF5.out, (blk_cell (blk_below hHeld.2.2.2.2.1 hb) 6).trans AF6.out, (blk_below hHeld.2.2.2.2.1 hb), (blk_below hHeld.2.2.2.2.2.1 hb), (below_step hHeld.2.2.2.2.2.2 hb)⟩ (fun hHeld => ?_)
  clear hK K
  refine norm_ (a' := ?_) ?_ ?_
  rotate_left
  · show Act.put _ (some 15) _ = _
    simp only [Act.put, List.setIfInBounds_toArray, List.set_cons_zero, List.set_cons_succ, i64_w, i32_w]
    rfl
  refine one_ (i := 11) (N := some 18) #[true, true, true, true, true, true, true, true, true, true, true, true, true, false, false, false, false, false, false, false] rfl rfl (by kernel_rfl) (by decide) (fun K hK => ?_)
  refine goes_ Try.func21 (by kernel_rfl) rfl #[.int .i64 i6] (by rfl) rfl rfl (by simp only [List.map_toArray, List.map_cons, List.map_nil]; rfl) ?_
  with_reducible refine (KC6.out _).mono ?_
  rintro e w7 ⟨rfl, hb⟩
  refine ⟨_, rfl, ?_⟩
  refine hK.out _ _ ⟨(blk_cell (blk_below hHeld.2.2.2.2.1 hb) 3).trans AF3.out, (blk_cell (blk_below hHeld.2.2.2.2.1 hb) 4).trans AF4.out, (blk_cell (blk_below hHeld.2.2.2.2.1 hb) 5).trans AF5.out, (blk_cell (blk_below hHeld.2.2.2.2.1 hb) 6).trans AF6.out, (blk_below hHeld.2.2.2.2.1 hb), (blk_below hHeld.2.2.2.2.2.1 hb), (below_step hHeld.2.2.2.2.2.2 hb)⟩ (fun hHeld => ?_)
  clear hK K
  refine norm_ (a' := ?_) ?_ ?_
  rotate_left
  · show Act.put _ (some 18) _ = _
    simp only [Act.put, List.setIfInBounds_toArray, List.set_cons_zero, List.set_cons_succ, i64_w, i32_w]
    rfl
  refine last_ (i := 13) (N := none) #[true, true, true, true, true, true, true, true, true, true, true, true, true, true, false, false, false, false, false, false] rfl rfl (by kernel_rfl) (by decide) (fun K hK => ?_)
  have KF7 := Aside0.mk hHeld.2.2.2.2.1
  have KS7 := Aside0.mk hHeld.2.2.2.2.2.1
  have HB7 := Aside0.mk hHeld.2.2.2.2.2.2
  have z3 : w7.cell? ⟨gf, 3, none⟩ = some (.int .i64 i3) := (blk_cell KF7.out 3).trans AF3.out
  have y3 := blk_frozen KF7.out 3
  have z4 : w7.cell? ⟨gf, 4, none⟩ = some (.int .i64 i4) := (blk_cell KF7.out 4).trans AF4.out
  have y4 := blk_frozen KF7.out 4
  have z5 : w7.cell? ⟨gf, 5, none⟩ = some (.int .i64 i5) := (blk_cell KF7.out 5).trans AF5.out
  have y5 := blk_frozen KF7.out 5
  have z6 : w7.cell? ⟨gf, 6, none⟩ = some (.int .i64 i6) := (blk_cell KF7.out 6).trans AF6.out
  have y6 := blk_frozen KF7.out 6
  refine skip_ (w1 := ?_) (by rfl) rfl ?_ ?_
  rotate_left
  · go_simp
    rfl
  refine hK.out _ _ ?_
  clear hK K
  refine pure_ (i := 14) (N := some 20) (v := ?_) (a' := ?_) #[true, true, true, true, true, true, true, true, true, true, true, true, true, true, true, false, false, false, false, false] rfl rfl (by kernel_rfl) (fun _ _ _ h => h) (Or.inl ⟨by rfl, ?_⟩) ?_ ?_
  rotate_left
  · intro w'
    go_simp
    with_reducible rfl
  rotate_left
  · simp only [Act.put, List.setIfInBounds_toArray, List.set_cons_zero, List.set_cons_succ, i64_w, i32_w]
    rfl
  refine last_ (i := 15) (N := none) #[true, true, true, true, true, true, true, true, true, true, true, true, true, true, true, true, false, false, false, false] rfl rfl (by kernel_rfl) (by decide) (fun K hK => ?_)
  refine skip_ (w1 := ?_) (by rfl) rfl ?_ ?_
  rotate_left
  · go_simp
    rfl
  refine hK.out _ _ ?_
  clear hK K
  refine pure_ (i := 16) (N := some 21) (v := ?_) (a' := ?_) #[true, true, true, true, true, true, true, true, true, true, true, true, true, true, true, true, true, false, false, false] rfl rfl (by kernel_rfl) (fun _ _ _ h => h) (Or.inl ⟨by rfl, ?_⟩) ?_ ?_
  rotate_left
  · intro w'
    go_simp
    with_reducible rfl
  rotate_left
  · simp only [Act.put, List.setIfInBounds_toArray, List.set_cons_zero, List.set_cons_succ, i64_w, i32_w]
    rfl
  refine last_ (i := 17) (N := none) #[true, true, true, true, true, true, true, true, true, true, true, true, true, true, true, true, true, true, false, false] rfl rfl (by kernel_rfl) (by decide) (fun K hK => ?_)
  refine skip_ (w1 := ?_) (by rfl) rfl ?_ ?_
  rotate_left
  · go_simp
    rfl
  refine hK.out _ _ ?_
  clear hK K
  refine pure_ (i := 18) (N := some 22) (v := ?_) (a' := ?_) #[true, true, true, true, true, true, true, true, true, true, true, true, true, true, true, true, true, true, true, false] rfl rfl (by kernel_rfl) (fun _ _ _ h => h) (Or.inl ⟨by rfl, ?_⟩) ?_ ?_
  rotate_left
  · intro w'
    go_simp
    with_reducible rfl
  rotate_left
  · simp only [Act.put, List.setIfInBounds_toArray, List.set_cons_zero, List.set_cons_succ, i64_w, i32_w]
    rfl
  refine last_ (i := 19) (N := none) #[true, true, true, true, true, true, true, true, true, true, true, true, true, true, true, true, true, true, true, true] rfl rfl (by kernel_rfl) (by decide) (fun K hK => ?_)
  refine skip_ (w1 := ?_) (by rfl) rfl ?_ ?_
  rotate_left
  · go_simp
    rfl
  refine hK.out _ _ ?_
  clear hK K
  refine done_ (by kernel_rfl) ?_
  have Kgf_8 : Aside0 (((((w7.setCell ⟨gf, 3, none⟩ (.int .i64 k3)).setCell ⟨gf, 4, none⟩ (.int .i64 k4)).setCell ⟨gf, 5, none⟩ (.int .i64 k5)).setCell ⟨gf, 6, none⟩ (.int .i64 k6)).heap[gf]? = some (.cells G 41 (0, 0))) := ⟨HFG.out ▸ (blk_put (blk_put (blk_put (blk_put KF7.out 3 (.int .i64 k3) rfl) 4 (.int .i64 k4) rfl) 5 (.int .i64 k5) rfl) 6 (.int .i64 k6) rfl)⟩
  have Kgs_8 : Aside0 (((((w7.setCell ⟨gf, 3, none⟩ (.int .i64 k3)).setCell ⟨gf, 4, none⟩ (.int .i64 k4)).setCell ⟨gf, 5, none⟩ (.int .i64 k5)).setCell ⟨gf, 6, none⟩ (.int .i64 k6)).heap[gs]? = some (.cells a 25 (0, 0))) := ⟨(blk_far (blk_far (blk_far (blk_far KS7.out Ngfgs.symm _) Ngfgs.symm _) Ngfgs.symm _) Ngfgs.symm _)⟩
  have HB8 : Aside0 (Below w.heap.size w ((((w7.setCell ⟨gf, 3, none⟩ (.int .i64 k3)).setCell ⟨gf, 4, none⟩ (.int .i64 k4)).setCell ⟨gf, 5, none⟩ (.int .i64 k5)).setCell ⟨gf, 6, none⟩ (.int .i64 k6))) := ⟨((((HB7.out.setCell Bgf.out _).setCell Bgf.out _).setCell Bgf.out _).setCell Bgf.out _)⟩
  clear z3 y3 z4 y4 z5 y5 z6 y6
  generalize ((((w7.setCell ⟨gf, 3, none⟩ (.int .i64 k3)).setCell ⟨gf, 4, none⟩ (.int .i64 k4)).setCell ⟨gf, 5, none⟩ (.int .i64 k5)).setCell ⟨gf, 6, none⟩ (.int .i64 k6)) = w8 at Kgf_8 Kgs_8 HB8 ⊢
  go_wp2
  refine start_ (n := 13) (S := fun w' => w'.heap[gf]? = some (.cells G 41 (0, 0)) ∧ w'.heap[gs]? = some (.cells a 25 (0, 0)) ∧ Below w.heap.size w w') (ds := []) #[false, false, false, false, false, false, false, false, false, false, false, false, false] (by kernel_rfl) rfl rfl ⟨Kgf_8.out, Kgs_8.out, below_drew1 HB8.out⟩ (fun hHeld => ?_)
  refine one_ (i := 0) (N := some 23) #[true, false, false, false, false, false, false, false, false, false, false, false, false] rfl rfl (by kernel_rfl) (by decide) (fun K hK => ?_)
  refine goes_ Try.func22 (by kernel_rfl) rfl #[] (by rfl) rfl rfl (by simp only [List.map_toArray, List.map_cons, List.map_nil]) ?_
  with_reducible refine (painted_yes _).mono ?_
  rintro e w3 ⟨rfl, hb⟩
  refine ⟨_, rfl, ?_⟩
  refine hK.out _ _ ⟨(blk_below hHeld.1 hb), (blk_below hHeld.2.1 hb), (below_step hHeld.2.2 hb)⟩ (fun hHeld => ?_)
  clear hK K
  refine norm_ (a' := ?_) ?_ ?_
  rotate_left
  · show Act.put _ (some 23) _ = _
    simp only [Act.put, List.setIfInBounds_toArray, List.set_cons_zero, List.set_cons_succ, i64_w, i32_w]
    rfl
  refine pure_ (i := 1) (N := some 24) (v := ?_) (a' := ?_) #[true, true, false, false, false, false, false, false, false, false, false, false, false] rfl rfl (by kernel_rfl) (fun _ _ _ h => h) (Or.inl ⟨by rfl, ?_⟩) ?_ ?_
  rotate_left
  · intro w'
    go_simp
    with_reducible rfl
  rotate_left
  · simp only [Act.put, List.setIfInBounds_toArray, List.set_cons_zero, List.set_cons_succ, i64_w, i32_w]
    rfl
  refine pure_ (i := 3) (N := some 26) (v := ?_) (a' := ?_) #[true, true, false, true, false, false, false, false, false, false, false, false, false] rfl rfl (by kernel_rfl) (fun _ _ _ h => h) (Or.inl ⟨by rfl, ?_⟩) ?_ ?_
  rotate_left
  · intro w'
    go_simp
    with_reducible rfl
  rotate_left
  · simp only [Act.put, List.setIfInBounds_toArray, List.set_cons_zero, List.set_cons_succ, i64_w, i32_w]
    rfl
  refine pure_ (i := 7) (N := some 30) (v := ?_) (a' := ?_) #[true, true, false, true, false, false, false, true, false, false, false, false, false] rfl rfl (by kernel_rfl) (fun _ _ _ h => h) (Or.inl ⟨by rfl, ?_⟩) ?_ ?_
  rotate_left
  · intro w'
    go_simp
    with_reducible rfl
  rotate_left
  · simp only [Act.put, List.setIfInBounds_toArray, List.set_cons_zero, List.set_cons_succ, i64_w, i32_w]
    rfl
  refine take_ (i := 2) (N := some 25) (v := ?_) (a' := ?_) #[true, true, true, true, false, false, false, true, false, false, false, false, false] rfl rfl (by kernel_rfl) (fun _ _ _ h => h) (Or.inl ⟨by rfl, ?_⟩) hHeld ?_ ?_
  rotate_left
  · rintro w' ⟨s0, s1, s2⟩
    refine load_run 41 (.tmp 3) ?_ gf ?_ 41 _ (0, 0) _ s0 Try.underlying41 ?_ ?_
    · rfl
    · rfl
    · rfl
    · rw [hGs]; kernel_rfl
  rotate_left
  · simp only [Act.put, List.setIfInBounds_toArray, List.set_cons_zero, List.set_cons_succ, i64_w, i32_w]
    rfl
  refine take_ (i := 4) (N := some 27) (v := ?_) (a' := ?_) #[true, true, true, true, true, false, false, true, false, false, false, false, false] rfl rfl (by kernel_rfl) (fun _ _ _ h => h) (Or.inl ⟨by rfl, ?_⟩) hHeld ?_ ?_
  rotate_left
  · rintro w' ⟨s0, s1, s2⟩
    refine load_run 25 (.tmp 5) ?_ gs ?_ 25 _ (0, 0) _ s1 Try.underlying25 ?_ ?_
    · rfl
    · rfl
    · rfl
    · rw [hsz]; kernel_rfl
  rotate_left
  · simp only [Act.put, List.setIfInBounds_toArray, List.set_cons_zero, List.set_cons_succ, i64_w, i32_w]
    rfl
  refine take_ (i := 6) (N := some 29) (v := ?_) (a' := ?_) #[true, true, true, true, true, false, true, true, false, false, false, false, false] rfl rfl (by kernel_rfl) (fun _ _ _ h => h) (Or.inl ⟨by rfl, ?_⟩) hHeld ?_ ?_
  rotate_left
  · rintro w' ⟨s0, s1, s2⟩
    refine load_run 41 (.tmp 3) ?_ gf ?_ 41 _ (0, 0) _ s0 Try.underlying41 ?_ ?_
    · rfl
    · rfl
    · rfl
    · rw [hGs]; kernel_rfl
  rotate_left
  · simp only [Act.put, List.setIfInBounds_toArray, List.set_cons_zero, List.set_cons_succ, i64_w, i32_w]
    rfl
  refine take_ (i := 8) (N := some 31) (v := ?_) (a' := ?_) #[true, true, true, true, true, false, true, true, true, false, false, false, false] rfl rfl (by kernel_rfl) (fun _ _ _ h => h) (Or.inl ⟨by rfl, ?_⟩) hHeld ?_ ?_
  rotate_left
  · rintro w' ⟨s0, s1, s2⟩
    refine load_run 25 (.tmp 5) ?_ gs ?_ 25 _ (0, 0) _ s1 Try.underlying25 ?_ ?_
    · rfl
    · rfl
    · rfl
    · rw [hsz]; kernel_rfl
  rotate_left
  · simp only [Act.put, List.setIfInBounds_toArray, List.set_cons_zero, List.set_cons_succ, i64_w, i32_w]
    rfl
  refine one_ (i := 5) (N := some 28) #[true, true, true, true, true, true, true, true, true, false, false, false, false] rfl rfl (by kernel_rfl) (by decide) (fun K hK => ?_)
  refine goes_ Try.func24 (by kernel_rfl) rfl #[.agg G, .int .i64 kind, .agg a] (by rfl) rfl rfl (by simp only [List.map_toArray, List.map_cons, List.map_nil]; rfl) ?_
  with_reducible refine (KF.out _).mono ?_
  rintro e w4 ⟨u1, rfl, hr, hb⟩
  refine ⟨_, rfl, ?_⟩
  obtain ⟨A1, c1, hu1, hle1, hC1⟩ := Kd.R_reads hr
  subst hu1
  have HC1 := Aside0.mk hC1
  have HL1 := Aside0.mk hle1
  clear hr hC1 hle1
  refine hK.out _ _ ⟨(blk_below hHeld.1 hb), (blk_below hHeld.2.1 hb), (below_step hHeld.2.2 hb)⟩ (fun hHeld => ?_)
  clear hK K
  refine norm_ (a' := ?_) ?_ ?_
  rotate_left
  · show Act.put _ (some 28) _ = _
    simp only [Act.put, List.setIfInBounds_toArray, List.set_cons_zero, List.set_cons_succ, i64_w, i32_w]
    rfl
  refine one_ (i := 9) (N := some 32) #[true, true, true, true, true, true, true, true, true, true, false, false, false] rfl rfl (by kernel_rfl) (by decide) (fun K hK => ?_)
  refine goes_ Try.func25 (by kernel_rfl) rfl #[.agg G, .int .i64 kind, .agg a] (by rfl) rfl rfl (by simp only [List.map_toArray, List.map_cons, List.map_nil]; rfl) ?_
  with_reducible refine (KR.out _).mono ?_
  rintro e w5 ⟨u2, rfl, hr, hb⟩
  refine ⟨_, rfl, ?_⟩
  obtain ⟨A2, c2, hu2, hle2, hC2⟩ := Kd.R_reads hr
  subst hu2
  have HC2 := Aside0.mk hC2
  have HL2 := Aside0.mk hle2
  have HC1b := Aside0.mk (Kd.C_below HC1.out hb)
  clear hr hC2 hle2
  refine hK.out _ _ ⟨(blk_below hHeld.1 hb), (blk_below hHeld.2.1 hb), (below_step hHeld.2.2 hb)⟩ (fun hHeld => ?_)
  clear hK K
  refine norm_ (a' := ?_) ?_ ?_
  rotate_left
  · show Act.put _ (some 32) _ = _
    simp only [Act.put, List.setIfInBounds_toArray, List.set_cons_zero, List.set_cons_succ, i64_w, i32_w]
    rfl
  refine one_ (i := 10) (N := some 33) #[true, true, true, true, true, true, true, true, true, true, true, false, false] rfl rfl (by kernel_rfl) (by decide) (fun K hK => ?_)
  refine goes_ Try.func23 (by kernel_rfl) rfl #[.slice A1 L.length c1, .slice A2 L.length c2] (by rfl) rfl rfl (by simp only [List.map_toArray, List.map_cons, List.map_nil]; rfl) ?_
  with_reducible refine (api_Cmd.calls A1 c1 L A2 c2 L true _ HC1b.out HL1.out HC2.out HL2.out HE.out).mono ?_
  rintro e w6 ⟨rfl, hb⟩
  refine ⟨_, rfl, ?_⟩
  refine hK.out _ _ ⟨(blk_below hHeld.1 hb), (blk_below hHeld.2.1 hb), (below_step hHeld.2.2 hb)⟩ (fun hHeld => ?_)
  clear hK K
  refine norm_ (a' := ?_) ?_ ?_
  rotate_left
  · show Act.put _ (some 33) _ = _
    simp only [Act.put, List.setIfInBounds_toArray, List.set_cons_zero, List.set_cons_succ, i64_w, i32_w]
    rfl
  refine pure_ (i := 11) (N := some 34) (v := ?_) (a' := ?_) #[true, true, true, true, true, true, true, true, true, true, true, true, false] rfl rfl (by kernel_rfl) (fun _ _ _ h => h) (Or.inl ⟨by rfl, ?_⟩) ?_ ?_
  rotate_left
  · intro w'
    go_simp
    with_reducible rfl
  rotate_left
  · simp only [Act.put, List.setIfInBounds_toArray, List.set_cons_zero, List.set_cons_succ, i64_w, i32_w]
    rfl
  refine pure_ (i := 12) (N := some 6) (v := ?_) (a' := ?_) #[true, true, true, true, true, true, true, true, true, true, true, true, true] rfl rfl (by kernel_rfl) (fun _ _ _ h => h) (Or.inl ⟨by rfl, ?_⟩) ?_ ?_
  rotate_left
  · intro w'
    go_simp
    with_reducible rfl
  rotate_left
  · simp only [Act.put, List.setIfInBounds_toArray, List.set_cons_zero, List.set_cons_succ, i64_w, i32_w]
    rfl
  refine done_ (by kernel_rfl) ?_
  go_wp2
  go_ret
  exact ⟨rfl, hHeld.2.2⟩
end Go.Proofs.Ytaejmgdpnnhpmaa.QSty
