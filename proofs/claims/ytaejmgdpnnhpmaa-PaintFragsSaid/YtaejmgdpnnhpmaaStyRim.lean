/- The reference's Rim, walked by hand. -/
import Derived.Test.YtaejmgdpnnhpmaaStyRefBound
import Derived.Test.YtaejmgdpnnhpmaaStyAcross
namespace Go.Proofs.Ytaejmgdpnnhpmaa.QSty
open Go.RowKit Go.Proofs.YtaejmgdpnnhpmaaW.PrintWords Go.Proofs.YtaejmgdpnnhpmaaW.PrintLast Go.Proofs.YtaejmgdpnnhpmaaW.PrintMore
set_option linter.unusedVariables false
set_option linter.unusedSimpArgs false
set_option maxHeartbeats 8000000 in
set_option maxRecDepth 100000 in
theorem ref_Rim.calls (xs : List Int) (room : Int) (hl : xs.length = 118) (w : World) :
    Calls Try.prog 55 #[sty xs, .int .i64 room] w fun e w' => (∃ high, e = .returned (.tuple #[.int .i64 (rimof xs room), .int .i64 high])) ∧ Below w.heap.size w w' := by
  have R19 := fun w => clerestoryref3_Edges.calls xs 19 room true hl (by omega) (by omega) w
  have R15 := fun w => clerestoryref3_Edges.calls xs 15 room true hl (by omega) (by omega) w
  have hg : edgU true xs 19 room = .agg #[.int .i64 (mx 0 (edg1 xs 19 room)), .int .i64 (e4 xs 19 room 1), .int .i64 (mx 0 (edg1 xs (19 + 2) room)), .int .i64 (e4 xs 19 room 3)] := rfl
  have hh : edgU true xs 15 room = .agg #[.int .i64 (mx 0 (edg1 xs 15 room)), .int .i64 (e4 xs 15 room 1), .int .i64 (mx 0 (edg1 xs (15 + 2) room)), .int .i64 (e4 xs 15 room 3)] := rfl
  rw [hg] at R19
  rw [hh] at R15
  clear hg hh
  have hrim : rimof xs room = wrap64 (wrap64 (wrap64 (e4 xs 19 room 3 + e4 xs 19 room 1) + e4 xs 15 room 3) + e4 xs 15 room 1) := rfl
  obtain ⟨g0, hg0⟩ : ∃ v, mx 0 (edg1 xs 19 room) = v := ⟨_, rfl⟩
  rw [hg0] at R19
  clear hg0
  obtain ⟨g1, hg1⟩ : ∃ v, e4 xs 19 room 1 = v := ⟨_, rfl⟩
  rw [hg1] at R19
  rw [hg1] at hrim
  clear hg1
  obtain ⟨g2, hg2⟩ : ∃ v, mx 0 (edg1 xs (19 + 2) room) = v := ⟨_, rfl⟩
  rw [hg2] at R19
  clear hg2
  obtain ⟨g3, hg3⟩ : ∃ v, e4 xs 19 room 3 = v := ⟨_, rfl⟩
  rw [hg3] at R19
  rw [hg3] at hrim
  clear hg3
  obtain ⟨h0, hh0⟩ : ∃ v, mx 0 (edg1 xs 15 room) = v := ⟨_, rfl⟩
  rw [hh0] at R15
  clear hh0
  obtain ⟨h1, hh1⟩ : ∃ v, e4 xs 15 room 1 = v := ⟨_, rfl⟩
  rw [hh1] at R15
  rw [hh1] at hrim
  clear hh1
  obtain ⟨h2, hh2⟩ : ∃ v, mx 0 (edg1 xs (15 + 2) room) = v := ⟨_, rfl⟩
  rw [hh2] at R15
  clear hh2
  obtain ⟨h3, hh3⟩ : ∃ v, e4 xs 15 room 3 = v := ⟨_, rfl⟩
  rw [hh3] at R15
  rw [hh3] at hrim
  clear hh3
  rw [hrim]
  clear hrim
  unfold sty at *
  obtain ⟨a, ha⟩ : ∃ a, (nums .i64 xs).toArray = a := ⟨_, rfl⟩
  have hsz : a.size = 118 := by rw [← ha]; simp [nums, hl]
  rw [ha] at R19 R15 ⊢
  have H19 := Aside0.mk R19
  have H15 := Aside0.mk R15
  clear R19 R15 ha hl
  have HB := Aside0.mk (Below.refl w.heap.size w)
  go_enter Try.func55, Try.ntmps55
  go_wp2_with ((with_reducible refine gate_dst (N := 2) rfl ?_); refine box_event rfl (N := 2) rfl (cs := a) (t := 25) (by first | (go_simp; done) | (go_simp; rfl)) ?_; intro gs hg_ w1 hbx hb; have KS1 := Aside0.mk hbx; have HB1 := Aside0.mk (below_step HB.out hb); clear hg_ hbx hb)
  refine start_ (n := 10) (S := fun w' => w'.heap[gs]? = some (.cells a 25 (0, 0)) ∧ Below w.heap.size w w') (ds := []) #[false, false, false, false, false, false, false, false, false, false] (by kernel_rfl) rfl rfl ⟨KS1.out, below_drew1 HB1.out⟩ (fun hHeld => ?_)
  refine pure_ (i := 1) (N := some 9) (v := ?_) (a' := ?_) #[false, true, false, false, false, false, false, false, false, false] rfl rfl (by kernel_rfl) (fun _ _ _ h => h) (Or.inl ⟨by rfl, ?_⟩) ?_ ?_
  rotate_left
  · intro w'
    go_simp
    with_reducible rfl
  rotate_left
  · simp only [Act.put, List.setIfInBounds_toArray, List.set_cons_zero, List.set_cons_succ, i64_w, i32_w]
    rfl
  refine pure_ (i := 4) (N := some 12) (v := ?_) (a' := ?_) #[false, true, false, false, true, false, false, false, false, false] rfl rfl (by kernel_rfl) (fun _ _ _ h => h) (Or.inl ⟨by rfl, ?_⟩) ?_ ?_
  rotate_left
  · intro w'
    go_simp
    with_reducible rfl
  rotate_left
  · simp only [Act.put, List.setIfInBounds_toArray, List.set_cons_zero, List.set_cons_succ, i64_w, i32_w]
    rfl
  refine take_ (i := 0) (N := some 8) (v := ?_) (a' := ?_) #[true, true, false, false, true, false, false, false, false, false] rfl rfl (by kernel_rfl) (fun _ _ _ h => h) (Or.inl ⟨by rfl, ?_⟩) hHeld ?_ ?_
  rotate_left
  · rintro w' ⟨s0, s1⟩
    refine load_run 25 (.tmp 2) ?_ gs ?_ 25 _ (0, 0) _ s0 Try.underlying25 ?_ ?_
    · rfl
    · rfl
    · rfl
    · rw [hsz]; kernel_rfl
  rotate_left
  · simp only [Act.put, List.setIfInBounds_toArray, List.set_cons_zero, List.set_cons_succ, i64_w, i32_w]
    rfl
  refine take_ (i := 3) (N := some 11) (v := ?_) (a' := ?_) #[true, true, false, true, true, false, false, false, false, false] rfl rfl (by kernel_rfl) (fun _ _ _ h => h) (Or.inl ⟨by rfl, ?_⟩) hHeld ?_ ?_
  rotate_left
  · rintro w' ⟨s0, s1⟩
    refine load_run 25 (.tmp 2) ?_ gs ?_ 25 _ (0, 0) _ s0 Try.underlying25 ?_ ?_
    · rfl
    · rfl
    · rfl
    · rw [hsz]; kernel_rfl
  rotate_left
  · simp only [Act.put, List.setIfInBounds_toArray, List.set_cons_zero, List.set_cons_succ, i64_w, i32_w]
    rfl
  refine join_ (σ := Nat × Nat) 2 #[true, true, true, true, true, true, true, true, false, false] (fun s_ => [(10, .agg #[.int .i64 g0, .int .i64 g1, .int .i64 g2, .int .i64 g3]), (13, .agg #[.int .i64 h0, .int .i64 h1, .int .i64 h2, .int .i64 h3]), (6, .pointer (some ⟨s_.1, 0, none⟩)), (7, .pointer (some ⟨s_.2, 0, none⟩))]) (fun s_ w' => (w'.heap[gs]? = some (.cells a 25 (0, 0)) ∧ Below w.heap.size w w') ∧ w'.heap[s_.1]? = some (.cells #[.int .i64 0, .int .i64 0, .int .i64 0, .int .i64 0] 28 (0, 0)) ∧ w'.heap[s_.2]? = some (.cells #[.int .i64 0, .int .i64 0, .int .i64 0, .int .i64 0] 28 (0, 0)) ∧ w.heap.size ≤ s_.1 ∧ w.heap.size ≤ s_.2 ∧ gs ≠ s_.1 ∧ gs ≠ s_.2 ∧ s_.1 ≠ s_.2) ?_ ?_
  rotate_left
  · intro hCont
    refine three_ (i := 2) (j := 6) (k := 7) (Ni := some 10) (Nj := some 6) (Nk := some 7) #[true, true, true, true, true, false, false, false, false, false] #[true, true, false, true, true, false, true, false, false, false] #[true, true, false, true, true, false, false, true, false, false] rfl rfl rfl rfl rfl rfl (by kernel_rfl) (by decide) (by decide) (by decide) (fun K hK => ?_) (fun K hK => ?_) (fun K hK => ?_)
    · skip
      refine goes_ Try.func17 (by kernel_rfl) rfl #[.agg a, .int .i64 19, .int .i64 room, .bool true] (by rfl) rfl rfl (by simp only [List.map_toArray, List.map_cons, List.map_nil]; rfl) ?_
      with_reducible refine (H19.out _).mono ?_
      rintro e w20 ⟨rfl, hb⟩
      refine ⟨_, rfl, ?_⟩
      refine hK.out _ _ ⟨(blk_below hHeld.1 hb), (below_step hHeld.2 hb)⟩ (fun hHeld => ?_)
      clear hK K
      refine norm_ (a' := ?_) ?_ ?_
      rotate_left
      · show Act.put _ (some 10) _ = _
        simp only [Act.put, List.setIfInBounds_toArray, List.set_cons_zero, List.set_cons_succ, i64_w, i32_w]
        rfl
      refine three_ (i := 5) (j := 6) (k := 7) (Ni := some 13) (Nj := some 6) (Nk := some 7) #[true, true, true, true, true, true, false, false, false, false] #[true, true, true, true, true, false, true, false, false, false] #[true, true, true, true, true, false, false, true, false, false] rfl rfl rfl rfl rfl rfl (by kernel_rfl) (by decide) (by decide) (by decide) (fun K hK => ?_) (fun K hK => ?_) (fun K hK => ?_)
      · skip
        refine goes_ Try.func17 (by kernel_rfl) rfl #[.agg a, .int .i64 15, .int .i64 room, .bool true] (by rfl) rfl rfl (by simp only [List.map_toArray, List.map_cons, List.map_nil]; rfl) ?_
        with_reducible refine (H15.out _).mono ?_
        rintro e w21 ⟨rfl, hb⟩
        refine ⟨_, rfl, ?_⟩
        refine hK.out _ _ ⟨(blk_below hHeld.1 hb), (below_step hHeld.2 hb)⟩ (fun hHeld => ?_)
        clear hK K
        refine norm_ (a' := ?_) ?_ ?_
        rotate_left
        · show Act.put _ (some 13) _ = _
          simp only [Act.put, List.setIfInBounds_toArray, List.set_cons_zero, List.set_cons_succ, i64_w, i32_w]
          rfl
        refine two_ (i := 6) (j := 7) (Ni := some 6) (Nj := some 7) #[true, true, true, true, true, true, true, false, false, false] #[true, true, true, true, true, true, false, true, false, false] rfl rfl rfl rfl (by kernel_rfl) (by decide) (by decide) (fun K hK => ?_) (fun K hK => ?_)
        · skip
          refine box_step ?hg (N := 6) ?hd (cs := #[.int .i64 0, .int .i64 0, .int .i64 0, .int .i64 0]) (t := 28) ?hr ?_; (case hd => rfl); (case hg => rfl); (case hr => first | (go_simp; done) | (go_simp; rfl))
          intro b6 hg_ w22 hbox hb
          have GE6 : Aside0 (w.heap.size ≤ b6) := ⟨by rw [hg_]; exact below_size hHeld.2⟩
          have N6 : Aside0 (gs ≠ b6) := ⟨by rw [hg_]; exact Nat.ne_of_lt (blk_lt hHeld.1)⟩
          have K6 := Aside0.mk hbox
          clear hbox hg_
          refine hK.out _ _ ⟨(blk_below hHeld.1 hb), (below_step hHeld.2 hb)⟩ (fun hHeld => ?_)
          clear hK K
          refine norm_ (a' := ?_) ?_ ?_
          rotate_left
          · show Act.put _ (some 6) _ = _
            simp only [Act.put, List.setIfInBounds_toArray, List.set_cons_zero, List.set_cons_succ, i64_w, i32_w]
            rfl
          refine one_ (i := 7) (N := some 7) #[true, true, true, true, true, true, true, true, false, false] rfl rfl (by kernel_rfl) (by decide) (fun K hK => ?_)
          refine box_step ?hg (N := 7) ?hd (cs := #[.int .i64 0, .int .i64 0, .int .i64 0, .int .i64 0]) (t := 28) ?hr ?_; (case hd => rfl); (case hg => rfl); (case hr => first | (go_simp; done) | (go_simp; rfl))
          intro b7 hg_ w23 hbox hb
          have GE7 : Aside0 (w.heap.size ≤ b7) := ⟨by rw [hg_]; exact below_size hHeld.2⟩
          have N7 : Aside0 (gs ≠ b7) := ⟨by rw [hg_]; exact Nat.ne_of_lt (blk_lt hHeld.1)⟩
          have N67 : Aside0 (b6 ≠ b7) := ⟨by rw [hg_]; exact Nat.ne_of_lt (blk_lt K6.out)⟩
          have n_ := Aside0.mk (blk_below K6.out hb)
          clear K6
          have K6 := n_
          clear n_
          have K7 := Aside0.mk hbox
          clear hbox hg_
          refine hK.out _ _ ⟨(blk_below hHeld.1 hb), (below_step hHeld.2 hb)⟩ (fun hHeld => ?_)
          clear hK K
          refine norm_ (a' := ?_) ?_ ?_
          rotate_left
          · show Act.put _ (some 7) _ = _
            simp only [Act.put, List.setIfInBounds_toArray, List.set_cons_zero, List.set_cons_succ, i64_w, i32_w]
            rfl
          exact norm_ (by simp only [putAll, Act.put, List.setIfInBounds_toArray, List.set_cons_zero, List.set_cons_succ]) (hCont (b6, b7) _ ⟨hHeld, K6.out, K7.out, GE6.out, GE7.out, N6.out, N7.out, N67.out⟩)
        · skip
          refine box_step ?hg (N := 7) ?hd (cs := #[.int .i64 0, .int .i64 0, .int .i64 0, .int .i64 0]) (t := 28) ?hr ?_; (case hd => rfl); (case hg => rfl); (case hr => first | (go_simp; done) | (go_simp; rfl))
          intro b7 hg_ w22 hbox hb
          have GE7 : Aside0 (w.heap.size ≤ b7) := ⟨by rw [hg_]; exact below_size hHeld.2⟩
          have N7 : Aside0 (gs ≠ b7) := ⟨by rw [hg_]; exact Nat.ne_of_lt (blk_lt hHeld.1)⟩
          have K7 := Aside0.mk hbox
          clear hbox hg_
          refine hK.out _ _ ⟨(blk_below hHeld.1 hb), (below_step hHeld.2 hb)⟩ (fun hHeld => ?_)
          clear hK K
          refine norm_ (a' := ?_) ?_ ?_
          rotate_left
          · show Act.put _ (some 7) _ = _
            simp only [Act.put, List.setIfInBounds_toArray, List.set_cons_zero, List.set_cons_succ, i64_w, i32_w]
            rfl
          refine one_ (i := 6) (N := some 6) #[true, true, true, true, true, true, true, true, false, false] rfl rfl (by kernel_rfl) (by decide) (fun K hK => ?_)
          refine box_step ?hg (N := 6) ?hd (cs := #[.int .i64 0, .int .i64 0, .int .i64 0, .int .i64 0]) (t := 28) ?hr ?_; (case hd => rfl); (case hg => rfl); (case hr => first | (go_simp; done) | (go_simp; rfl))
          intro b6 hg_ w23 hbox hb
          have GE6 : Aside0 (w.heap.size ≤ b6) := ⟨by rw [hg_]; exact below_size hHeld.2⟩
          have N6 : Aside0 (gs ≠ b6) := ⟨by rw [hg_]; exact Nat.ne_of_lt (blk_lt hHeld.1)⟩
          have N67 : Aside0 (b6 ≠ b7) := ⟨by rw [hg_]; exact Nat.ne_of_gt (blk_lt K7.out)⟩
          have n_ := Aside0.mk (blk_below K7.out hb)
          clear K7
          have K7 := n_
          clear n_
          have K6 := Aside0.mk hbox
          clear hbox hg_
          refine hK.out _ _ ⟨(blk_below hHeld.1 hb), (below_step hHeld.2 hb)⟩ (fun hHeld => ?_)
          clear hK K
          refine norm_ (a' := ?_) ?_ ?_
          rotate_left
          · show Act.put _ (some 6) _ = _
            simp only [Act.put, List.setIfInBounds_toArray, List.set_cons_zero, List.set_cons_succ, i64_w, i32_w]
            rfl
          exact norm_ (by simp only [putAll, Act.put, List.setIfInBounds_toArray, List.set_cons_zero, List.set_cons_succ]) (hCont (b6, b7) _ ⟨hHeld, K6.out, K7.out, GE6.out, GE7.out, N6.out, N7.out, N67.out⟩)
      · skip
        refine box_step ?hg (N := 6) ?hd (cs := #[.int .i64 0, .int .i64 0, .int .i64 0, .int .i64 0]) (t := 28) ?hr ?_; (case hd => rfl); (case hg => rfl); (case hr => first | (go_simp; done) | (go_simp; rfl))
        intro b6 hg_ w21 hbox hb
        have GE6 : Aside0 (w.heap.size ≤ b6) := ⟨by rw [hg_]; exact below_size hHeld.2⟩
        have N6 : Aside0 (gs ≠ b6) := ⟨by rw [hg_]; exact Nat.ne_of_lt (blk_lt hHeld.1)⟩
        have K6 := Aside0.mk hbox
        clear hbox hg_
        refine hK.out _ _ ⟨(blk_below hHeld.1 hb), (below_step hHeld.2 hb)⟩ (fun hHeld => ?_)
        clear hK K
        refine norm_ (a' := ?_) ?_ ?_
        rotate_left
        · show Act.put _ (some 6) _ = _
          simp only [Act.put, List.setIfInBounds_toArray, List.set_cons_zero, List.set_cons_succ, i64_w, i32_w]
          rfl
        refine two_ (i := 5) (j := 7) (Ni := some 13) (Nj := some 7) #[true, true, true, true, true, true, true, false, false, false] #[true, true, true, true, true, false, true, true, false, false] rfl rfl rfl rfl (by kernel_rfl) (by decide) (by decide) (fun K hK => ?_) (fun K hK => ?_)
        · skip
          refine goes_ Try.func17 (by kernel_rfl) rfl #[.agg a, .int .i64 15, .int .i64 room, .bool true] (by rfl) rfl rfl (by simp only [List.map_toArray, List.map_cons, List.map_nil]; rfl) ?_
          with_reducible refine (H15.out _).mono ?_
          rintro e w22 ⟨rfl, hb⟩
          refine ⟨_, rfl, ?_⟩
          have n_ := Aside0.mk (blk_below K6.out hb)
          clear K6
          have K6 := n_
          clear n_
          refine hK.out _ _ ⟨(blk_below hHeld.1 hb), (below_step hHeld.2 hb)⟩ (fun hHeld => ?_)
          clear hK K
          refine norm_ (a' := ?_) ?_ ?_
          rotate_left
          · show Act.put _ (some 13) _ = _
            simp only [Act.put, List.setIfInBounds_toArray, List.set_cons_zero, List.set_cons_succ, i64_w, i32_w]
            rfl
          refine one_ (i := 7) (N := some 7) #[true, true, true, true, true, true, true, true, false, false] rfl rfl (by kernel_rfl) (by decide) (fun K hK => ?_)
          refine box_step ?hg (N := 7) ?hd (cs := #[.int .i64 0, .int .i64 0, .int .i64 0, .int .i64 0]) (t := 28) ?hr ?_; (case hd => rfl); (case hg => rfl); (case hr => first | (go_simp; done) | (go_simp; rfl))
          intro b7 hg_ w23 hbox hb
          have GE7 : Aside0 (w.heap.size ≤ b7) := ⟨by rw [hg_]; exact below_size hHeld.2⟩
          have N7 : Aside0 (gs ≠ b7) := ⟨by rw [hg_]; exact Nat.ne_of_lt (blk_lt hHeld.1)⟩
          have N67 : Aside0 (b6 ≠ b7) := ⟨by rw [hg_]; exact Nat.ne_of_lt (blk_lt K6.out)⟩
          have n_ := Aside0.mk (blk_below K6.out hb)
          clear K6
          have K6 := n_
          clear n_
          have K7 := Aside0.mk hbox
          clear hbox hg_
          refine hK.out _ _ ⟨(blk_below hHeld.1 hb), (below_step hHeld.2 hb)⟩ (fun hHeld => ?_)
          clear hK K
          refine norm_ (a' := ?_) ?_ ?_
          rotate_left
          · show Act.put _ (some 7) _ = _
            simp only [Act.put, List.setIfInBounds_toArray, List.set_cons_zero, List.set_cons_succ, i64_w, i32_w]
            rfl
          exact norm_ (by simp only [putAll, Act.put, List.setIfInBounds_toArray, List.set_cons_zero, List.set_cons_succ]) (hCont (b6, b7) _ ⟨hHeld, K6.out, K7.out, GE6.out, GE7.out, N6.out, N7.out, N67.out⟩)
        · skip
          refine box_step ?hg (N := 7) ?hd (cs := #[.int .i64 0, .int .i64 0, .int .i64 0, .int .i64 0]) (t := 28) ?hr ?_; (case hd => rfl); (case hg => rfl); (case hr => first | (go_simp; done) | (go_simp; rfl))
          intro b7 hg_ w22 hbox hb
          have GE7 : Aside0 (w.heap.size ≤ b7) := ⟨by rw [hg_]; exact below_size hHeld.2⟩
          have N7 : Aside0 (gs ≠ b7) := ⟨by rw [hg_]; exact Nat.ne_of_lt (blk_lt hHeld.1)⟩
          have N67 : Aside0 (b6 ≠ b7) := ⟨by rw [hg_]; exact Nat.ne_of_lt (blk_lt K6.out)⟩
          have n_ := Aside0.mk (blk_below K6.out hb)
          clear K6
          have K6 := n_
          clear n_
          have K7 := Aside0.mk hbox
          clear hbox hg_
          refine hK.out _ _ ⟨(blk_below hHeld.1 hb), (below_step hHeld.2 hb)⟩ (fun hHeld => ?_)
          clear hK K
          refine norm_ (a' := ?_) ?_ ?_
          rotate_left
          · show Act.put _ (some 7) _ = _
            simp only [Act.put, List.setIfInBounds_toArray, List.set_cons_zero, List.set_cons_succ, i64_w, i32_w]
            rfl
          refine one_ (i := 5) (N := some 13) #[true, true, true, true, true, true, true, true, false, false] rfl rfl (by kernel_rfl) (by decide) (fun K hK => ?_)
          refine goes_ Try.func17 (by kernel_rfl) rfl #[.agg a, .int .i64 15, .int .i64 room, .bool true] (by rfl) rfl rfl (by simp only [List.map_toArray, List.map_cons, List.map_nil]; rfl) ?_
          with_reducible refine (H15.out _).mono ?_
          rintro e w23 ⟨rfl, hb⟩
          refine ⟨_, rfl, ?_⟩
          have n_ := Aside0.mk (blk_below K6.out hb)
          clear K6
          have K6 := n_
          clear n_
          have n_ := Aside0.mk (blk_below K7.out hb)
          clear K7
          have K7 := n_
          clear n_
          refine hK.out _ _ ⟨(blk_below hHeld.1 hb), (below_step hHeld.2 hb)⟩ (fun hHeld => ?_)
          clear hK K
          refine norm_ (a' := ?_) ?_ ?_
          rotate_left
          · show Act.put _ (some 13) _ = _
            simp only [Act.put, List.setIfInBounds_toArray, List.set_cons_zero, List.set_cons_succ, i64_w, i32_w]
            rfl
          exact norm_ (by simp only [putAll, Act.put, List.setIfInBounds_toArray, List.set_cons_zero, List.set_cons_succ]) (hCont (b6, b7) _ ⟨hHeld, K6.out, K7.out, GE6.out, GE7.out, N6.out, N7.out, N67.out⟩)
      · skip
        refine box_step ?hg (N := 7) ?hd (cs := #[.int .i64 0, .int .i64 0, .int .i64 0, .int .i64 0]) (t := 28) ?hr ?_; (case hd => rfl); (case hg => rfl); (case hr => first | (go_simp; done) | (go_simp; rfl))
        intro b7 hg_ w21 hbox hb
        have GE7 : Aside0 (w.heap.size ≤ b7) := ⟨by rw [hg_]; exact below_size hHeld.2⟩
        have N7 : Aside0 (gs ≠ b7) := ⟨by rw [hg_]; exact Nat.ne_of_lt (blk_lt hHeld.1)⟩
        have K7 := Aside0.mk hbox
        clear hbox hg_
        refine hK.out _ _ ⟨(blk_below hHeld.1 hb), (below_step hHeld.2 hb)⟩ (fun hHeld => ?_)
        clear hK K
        refine norm_ (a' := ?_) ?_ ?_
        rotate_left
        · show Act.put _ (some 7) _ = _
          simp only [Act.put, List.setIfInBounds_toArray, List.set_cons_zero, List.set_cons_succ, i64_w, i32_w]
          rfl
        refine two_ (i := 5) (j := 6) (Ni := some 13) (Nj := some 6) #[true, true, true, true, true, true, false, true, false, false] #[true, true, true, true, true, false, true, true, false, false] rfl rfl rfl rfl (by kernel_rfl) (by decide) (by decide) (fun K hK => ?_) (fun K hK => ?_)
        · skip
          refine goes_ Try.func17 (by kernel_rfl) rfl #[.agg a, .int .i64 15, .int .i64 room, .bool true] (by rfl) rfl rfl (by simp only [List.map_toArray, List.map_cons, List.map_nil]; rfl) ?_
          with_reducible refine (H15.out _).mono ?_
          rintro e w22 ⟨rfl, hb⟩
          refine ⟨_, rfl, ?_⟩
          have n_ := Aside0.mk (blk_below K7.out hb)
          clear K7
          have K7 := n_
          clear n_
          refine hK.out _ _ ⟨(blk_below hHeld.1 hb), (below_step hHeld.2 hb)⟩ (fun hHeld => ?_)
          clear hK K
          refine norm_ (a' := ?_) ?_ ?_
          rotate_left
          · show Act.put _ (some 13) _ = _
            simp only [Act.put, List.setIfInBounds_toArray, List.set_cons_zero, List.set_cons_succ, i64_w, i32_w]
            rfl
          refine one_ (i := 6) (N := some 6) #[true, true, true, true, true, true, true, true, false, false] rfl rfl (by kernel_rfl) (by decide) (fun K hK => ?_)
          refine box_step ?hg (N := 6) ?hd (cs := #[.int .i64 0, .int .i64 0, .int .i64 0, .int .i64 0]) (t := 28) ?hr ?_; (case hd => rfl); (case hg => rfl); (case hr => first | (go_simp; done) | (go_simp; rfl))
          intro b6 hg_ w23 hbox hb
          have GE6 : Aside0 (w.heap.size ≤ b6) := ⟨by rw [hg_]; exact below_size hHeld.2⟩
          have N6 : Aside0 (gs ≠ b6) := ⟨by rw [hg_]; exact Nat.ne_of_lt (blk_lt hHeld.1)⟩
          have N67 : Aside0 (b6 ≠ b7) := ⟨by rw [hg_]; exact Nat.ne_of_gt (blk_lt K7.out)⟩
          have n_ := Aside0.mk (blk_below K7.out hb)
          clear K7
          have K7 := n_
          clear n_
          have K6 := Aside0.mk hbox
          clear hbox hg_
          refine hK.out _ _ ⟨(blk_below hHeld.1 hb), (below_step hHeld.2 hb)⟩ (fun hHeld => ?_)
          clear hK K
          refine norm_ (a' := ?_) ?_ ?_
          rotate_left
          · show Act.put _ (some 6) _ = _
            simp only [Act.put, List.setIfInBounds_toArray, List.set_cons_zero, List.set_cons_succ, i64_w, i32_w]
            rfl
          exact norm_ (by simp only [putAll, Act.put, List.setIfInBounds_toArray, List.set_cons_zero, List.set_cons_succ]) (hCont (b6, b7) _ ⟨hHeld, K6.out, K7.out, GE6.out, GE7.out, N6.out, N7.out, N67.out⟩)
        · skip
          refine box_step ?hg (N := 6) ?hd (cs := #[.int .i64 0, .int .i64 0, .int .i64 0, .int .i64 0]) (t := 28) ?hr ?_; (case hd => rfl); (case hg => rfl); (case hr => first | (go_simp; done) | (go_simp; rfl))
          intro b6 hg_ w22 hbox hb
          have GE6 : Aside0 (w.heap.size ≤ b6) := ⟨by rw [hg_]; exact below_size hHeld.2⟩
          have N6 : Aside0 (gs ≠ b6) := ⟨by rw [hg_]; exact Nat.ne_of_lt (blk_lt hHeld.1)⟩
          have N67 : Aside0 (b6 ≠ b7) := ⟨by rw [hg_]; exact Nat.ne_of_gt (blk_lt K7.out)⟩
          have n_ := Aside0.mk (blk_below K7.out hb)
          clear K7
          have K7 := n_
          clear n_
          have K6 := Aside0.mk hbox
          clear hbox hg_
          refine hK.out _ _ ⟨(blk_below hHeld.1 hb), (below_step hHeld.2 hb)⟩ (fun hHeld => ?_)
          clear hK K
          refine norm_ (a' := ?_) ?_ ?_
          rotate_left
          · show Act.put _ (some 6) _ = _
            simp only [Act.put, List.setIfInBounds_toArray, List.set_cons_zero, List.set_cons_succ, i64_w, i32_w]
            rfl
          refine one_ (i := 5) (N := some 13) #[true, true, true, true, true, true, true, true, false, false] rfl rfl (by kernel_rfl) (by decide) (fun K hK => ?_)
          refine goes_ Try.func17 (by kernel_rfl) rfl #[.agg a, .int .i64 15, .int .i64 room, .bool true] (by rfl) rfl rfl (by simp only [List.map_toArray, List.map_cons, List.map_nil]; rfl) ?_
          with_reducible refine (H15.out _).mono ?_
          rintro e w23 ⟨rfl, hb⟩
          refine ⟨_, rfl, ?_⟩
          have n_ := Aside0.mk (blk_below K7.out hb)
          clear K7
          have K7 := n_
          clear n_
          have n_ := Aside0.mk (blk_below K6.out hb)
          clear K6
          have K6 := n_
          clear n_
          refine hK.out _ _ ⟨(blk_below hHeld.1 hb), (below_step hHeld.2 hb)⟩ (fun hHeld => ?_)
          clear hK K
          refine norm_ (a' := ?_) ?_ ?_
          rotate_left
          · show Act.put _ (some 13) _ = _
            simp only [Act.put, List.setIfInBounds_toArray, List.set_cons_zero, List.set_cons_succ, i64_w, i32_w]
            rfl
          exact norm_ (by simp only [putAll, Act.put, List.setIfInBounds_toArray, List.set_cons_zero, List.set_cons_succ]) (hCont (b6, b7) _ ⟨hHeld, K6.out, K7.out, GE6.out, GE7.out, N6.out, N7.out, N67.out⟩)
    · skip
      refine box_step ?hg (N := 6) ?hd (cs := #[.int .i64 0, .int .i64 0, .int .i64 0, .int .i64 0]) (t := 28) ?hr ?_; (case hd => rfl); (case hg => rfl); (case hr => first | (go_simp; done) | (go_simp; rfl))
      intro b6 hg_ w20 hbox hb
      have GE6 : Aside0 (w.heap.size ≤ b6) := ⟨by rw [hg_]; exact below_size hHeld.2⟩
      have N6 : Aside0 (gs ≠ b6) := ⟨by rw [hg_]; exact Nat.ne_of_lt (blk_lt hHeld.1)⟩
      have K6 := Aside0.mk hbox
      clear hbox hg_
      refine hK.out _ _ ⟨(blk_below hHeld.1 hb), (below_step hHeld.2 hb)⟩ (fun hHeld => ?_)
      clear hK K
      refine norm_ (a' := ?_) ?_ ?_
      rotate_left
      · show Act.put _ (some 6) _ = _
        simp only [Act.put, List.setIfInBounds_toArray, List.set_cons_zero, List.set_cons_succ, i64_w, i32_w]
        rfl
      refine two_ (i := 2) (j := 7) (Ni := some 10) (Nj := some 7) #[true, true, true, true, true, false, true, false, false, false] #[true, true, false, true, true, false, true, true, false, false] rfl rfl rfl rfl (by kernel_rfl) (by decide) (by decide) (fun K hK => ?_) (fun K hK => ?_)
      · skip
        refine goes_ Try.func17 (by kernel_rfl) rfl #[.agg a, .int .i64 19, .int .i64 room, .bool true] (by rfl) rfl rfl (by simp only [List.map_toArray, List.map_cons, List.map_nil]; rfl) ?_
        with_reducible refine (H19.out _).mono ?_
        rintro e w21 ⟨rfl, hb⟩
        refine ⟨_, rfl, ?_⟩
        have n_ := Aside0.mk (blk_below K6.out hb)
        clear K6
        have K6 := n_
        clear n_
        refine hK.out _ _ ⟨(blk_below hHeld.1 hb), (below_step hHeld.2 hb)⟩ (fun hHeld => ?_)
        clear hK K
        refine norm_ (a' := ?_) ?_ ?_
        rotate_left
        · show Act.put _ (some 10) _ = _
          simp only [Act.put, List.setIfInBounds_toArray, List.set_cons_zero, List.set_cons_succ, i64_w, i32_w]
          rfl
        refine two_ (i := 5) (j := 7) (Ni := some 13) (Nj := some 7) #[true, true, true, true, true, true, true, false, false, false] #[true, true, true, true, true, false, true, true, false, false] rfl rfl rfl rfl (by kernel_rfl) (by decide) (by decide) (fun K hK => ?_) (fun K hK => ?_)
        · skip
          refine goes_ Try.func17 (by kernel_rfl) rfl #[.agg a, .int .i64 15, .int .i64 room, .bool true] (by rfl) rfl rfl (by simp only [List.map_toArray, List.map_cons, List.map_nil]; rfl) ?_
          with_reducible refine (H15.out _).mono ?_
          rintro e w22 ⟨rfl, hb⟩
          refine ⟨_, rfl, ?_⟩
          have n_ := Aside0.mk (blk_below K6.out hb)
          clear K6
          have K6 := n_
          clear n_
          refine hK.out _ _ ⟨(blk_below hHeld.1 hb), (below_step hHeld.2 hb)⟩ (fun hHeld => ?_)
          clear hK K
          refine norm_ (a' := ?_) ?_ ?_
          rotate_left
          · show Act.put _ (some 13) _ = _
            simp only [Act.put, List.setIfInBounds_toArray, List.set_cons_zero, List.set_cons_succ, i64_w, i32_w]
            rfl
          refine one_ (i := 7) (N := some 7) #[true, true, true, true, true, true, true, true, false, false] rfl rfl (by kernel_rfl) (by decide) (fun K hK => ?_)
          refine box_step ?hg (N := 7) ?hd (cs := #[.int .i64 0, .int .i64 0, .int .i64 0, .int .i64 0]) (t := 28) ?hr ?_; (case hd => rfl); (case hg => rfl); (case hr => first | (go_simp; done) | (go_simp; rfl))
          intro b7 hg_ w23 hbox hb
          have GE7 : Aside0 (w.heap.size ≤ b7) := ⟨by rw [hg_]; exact below_size hHeld.2⟩
          have N7 : Aside0 (gs ≠ b7) := ⟨by rw [hg_]; exact Nat.ne_of_lt (blk_lt hHeld.1)⟩
          have N67 : Aside0 (b6 ≠ b7) := ⟨by rw [hg_]; exact Nat.ne_of_lt (blk_lt K6.out)⟩
          have n_ := Aside0.mk (blk_below K6.out hb)
          clear K6
          have K6 := n_
          clear n_
          have K7 := Aside0.mk hbox
          clear hbox hg_
          refine hK.out _ _ ⟨(blk_below hHeld.1 hb), (below_step hHeld.2 hb)⟩ (fun hHeld => ?_)
          clear hK K
          refine norm_ (a' := ?_) ?_ ?_
          rotate_left
          · show Act.put _ (some 7) _ = _
            simp only [Act.put, List.setIfInBounds_toArray, List.set_cons_zero, List.set_cons_succ, i64_w, i32_w]
            rfl
          exact norm_ (by simp only [putAll, Act.put, List.setIfInBounds_toArray, List.set_cons_zero, List.set_cons_succ]) (hCont (b6, b7) _ ⟨hHeld, K6.out, K7.out, GE6.out, GE7.out, N6.out, N7.out, N67.out⟩)
        · skip
          refine box_step ?hg (N := 7) ?hd (cs := #[.int .i64 0, .int .i64 0, .int .i64 0, .int .i64 0]) (t := 28) ?hr ?_; (case hd => rfl); (case hg => rfl); (case hr => first | (go_simp; done) | (go_simp; rfl))
          intro b7 hg_ w22 hbox hb
          have GE7 : Aside0 (w.heap.size ≤ b7) := ⟨by rw [hg_]; exact below_size hHeld.2⟩
          have N7 : Aside0 (gs ≠ b7) := ⟨by rw [hg_]; exact Nat.ne_of_lt (blk_lt hHeld.1)⟩
          have N67 : Aside0 (b6 ≠ b7) := ⟨by rw [hg_]; exact Nat.ne_of_lt (blk_lt K6.out)⟩
          have n_ := Aside0.mk (blk_below K6.out hb)
          clear K6
          have K6 := n_
          clear n_
          have K7 := Aside0.mk hbox
          clear hbox hg_
          refine hK.out _ _ ⟨(blk_below hHeld.1 hb), (below_step hHeld.2 hb)⟩ (fun hHeld => ?_)
          clear hK K
          refine norm_ (a' := ?_) ?_ ?_
          rotate_left
          · show Act.put _ (some 7) _ = _
            simp only [Act.put, List.setIfInBounds_toArray, List.set_cons_zero, List.set_cons_succ, i64_w, i32_w]
            rfl
          refine one_ (i := 5) (N := some 13) #[true, true, true, true, true, true, true, true, false, false] rfl rfl (by kernel_rfl) (by decide) (fun K hK => ?_)
          refine goes_ Try.func17 (by kernel_rfl) rfl #[.agg a, .int .i64 15, .int .i64 room, .bool true] (by rfl) rfl rfl (by simp only [List.map_toArray, List.map_cons, List.map_nil]; rfl) ?_
          with_reducible refine (H15.out _).mono ?_
          rintro e w23 ⟨rfl, hb⟩
          refine ⟨_, rfl, ?_⟩
          have n_ := Aside0.mk (blk_below K6.out hb)
          clear K6
          have K6 := n_
          clear n_
          have n_ := Aside0.mk (blk_below K7.out hb)
          clear K7
          have K7 := n_
          clear n_
          refine hK.out _ _ ⟨(blk_below hHeld.1 hb), (below_step hHeld.2 hb)⟩ (fun hHeld => ?_)
          clear hK K
          refine norm_ (a' := ?_) ?_ ?_
          rotate_left
          · show Act.put _ (some 13) _ = _
            simp only [Act.put, List.setIfInBounds_toArray, List.set_cons_zero, List.set_cons_succ, i64_w, i32_w]
            rfl
          exact norm_ (by simp only [putAll, Act.put, List.setIfInBounds_toArray, List.set_cons_zero, List.set_cons_succ]) (hCont (b6, b7) _ ⟨hHeld, K6.out, K7.out, GE6.out, GE7.out, N6.out, N7.out, N67.out⟩)
      · skip
        refine box_step ?hg (N := 7) ?hd (cs := #[.int .i64 0, .int .i64 0, .int .i64 0, .int .i64 0]) (t := 28) ?hr ?_; (case hd => rfl); (case hg => rfl); (case hr => first | (go_simp; done) | (go_simp; rfl))
        intro b7 hg_ w21 hbox hb
        have GE7 : Aside0 (w.heap.size ≤ b7) := ⟨by rw [hg_]; exact below_size hHeld.2⟩
        have N7 : Aside0 (gs ≠ b7) := ⟨by rw [hg_]; exact Nat.ne_of_lt (blk_lt hHeld.1)⟩
        have N67 : Aside0 (b6 ≠ b7) := ⟨by rw [hg_]; exact Nat.ne_of_lt (blk_lt K6.out)⟩
        have n_ := Aside0.mk (blk_below K6.out hb)
        clear K6
        have K6 := n_
        clear n_
        have K7 := Aside0.mk hbox
        clear hbox hg_
        refine hK.out _ _ ⟨(blk_below hHeld.1 hb), (below_step hHeld.2 hb)⟩ (fun hHeld => ?_)
        clear hK K
        refine norm_ (a' := ?_) ?_ ?_
        rotate_left
        · show Act.put _ (some 7) _ = _
          simp only [Act.put, List.setIfInBounds_toArray, List.set_cons_zero, List.set_cons_succ, i64_w, i32_w]
          rfl
        refine one_ (i := 2) (N := some 10) #[true, true, true, true, true, false, true, true, false, false] rfl rfl (by kernel_rfl) (by decide) (fun K hK => ?_)
        refine goes_ Try.func17 (by kernel_rfl) rfl #[.agg a, .int .i64 19, .int .i64 room, .bool true] (by rfl) rfl rfl (by simp only [List.map_toArray, List.map_cons, List.map_nil]; rfl) ?_
        with_reducible refine (H19.out _).mono ?_
        rintro e w22 ⟨rfl, hb⟩
        refine ⟨_, rfl, ?_⟩
        have n_ := Aside0.mk (blk_below K6.out hb)
        clear K6
        have K6 := n_
        clear n_
        have n_ := Aside0.mk (blk_below K7.out hb)
        clear K7
        have K7 := n_
        clear n_
        refine hK.out _ _ ⟨(blk_below hHeld.1 hb), (below_step hHeld.2 hb)⟩ (fun hHeld => ?_)
        clear hK K
        refine norm_ (a' := ?_) ?_ ?_
        rotate_left
        · show Act.put _ (some 10) _ = _
          simp only [Act.put, List.setIfInBounds_toArray, List.set_cons_zero, List.set_cons_succ, i64_w, i32_w]
          rfl
        refine one_ (i := 5) (N := some 13) #[true, true, true, true, true, true, true, true, false, false] rfl rfl (by kernel_rfl) (by decide) (fun K hK => ?_)
        refine goes_ Try.func17 (by kernel_rfl) rfl #[.agg a, .int .i64 15, .int .i64 room, .bool true] (by rfl) rfl rfl (by simp only [List.map_toArray, List.map_cons, List.map_nil]; rfl) ?_
        with_reducible refine (H15.out _).mono ?_
        rintro e w23 ⟨rfl, hb⟩
        refine ⟨_, rfl, ?_⟩
        have n_ := Aside0.mk (blk_below K6.out hb)
        clear K6
        have K6 := n_
        clear n_
        have n_ := Aside0.mk (blk_below K7.out hb)
        clear K7
        have K7 := n_
        clear n_
        refine hK.out _ _ ⟨(blk_below hHeld.1 hb), (below_step hHeld.2 hb)⟩ (fun hHeld => ?_)
        clear hK K
        refine norm_ (a' := ?_) ?_ ?_
        rotate_left
        · show Act.put _ (some 13) _ = _
          simp only [Act.put, List.setIfInBounds_toArray, List.set_cons_zero, List.set_cons_succ, i64_w, i32_w]
          rfl
        exact norm_ (by simp only [putAll, Act.put, List.setIfInBounds_toArray, List.set_cons_zero, List.set_cons_succ]) (hCont (b6, b7) _ ⟨hHeld, K6.out, K7.out, GE6.out, GE7.out, N6.out, N7.out, N67.out⟩)
    · skip
      refine box_step ?hg (N := 7) ?hd (cs := #[.int .i64 0, .int .i64 0, .int .i64 0, .int .i64 0]) (t := 28) ?hr ?_; (case hd => rfl); (case hg => rfl); (case hr => first | (go_simp; done) | (go_simp; rfl))
      intro b7 hg_ w20 hbox hb
      have GE7 : Aside0 (w.heap.size ≤ b7) := ⟨by rw [hg_]; exact below_size hHeld.2⟩
      have N7 : Aside0 (gs ≠ b7) := ⟨by rw [hg_]; exact Nat.ne_of_lt (blk_lt hHeld.1)⟩
      have K7 := Aside0.mk hbox
      clear hbox hg_
      refine hK.out _ _ ⟨(blk_below hHeld.1 hb), (below_step hHeld.2 hb)⟩ (fun hHeld => ?_)
      clear hK K
      refine norm_ (a' := ?_) ?_ ?_
      rotate_left
      · show Act.put _ (some 7) _ = _
        simp only [Act.put, List.setIfInBounds_toArray, List.set_cons_zero, List.set_cons_succ, i64_w, i32_w]
        rfl
      refine two_ (i := 2) (j := 6) (Ni := some 10) (Nj := some 6) #[true, true, true, true, true, false, false, true, false, false] #[true, true, false, true, true, false, true, true, false, false] rfl rfl rfl rfl (by kernel_rfl) (by decide) (by decide) (fun K hK => ?_) (fun K hK => ?_)
      · skip
        refine goes_ Try.func17 (by kernel_rfl) rfl #[.agg a, .int .i64 19, .int .i64 room, .bool true] (by rfl) rfl rfl (by simp only [List.map_toArray, List.map_cons, List.map_nil]; rfl) ?_
        with_reducible refine (H19.out _).mono ?_
        rintro e w21 ⟨rfl, hb⟩
        refine ⟨_, rfl, ?_⟩
        have n_ := Aside0.mk (blk_below K7.out hb)
        clear K7
        have K7 := n_
        clear n_
        refine hK.out _ _ ⟨(blk_below hHeld.1 hb), (below_step hHeld.2 hb)⟩ (fun hHeld => ?_)
        clear hK K
        refine norm_ (a' := ?_) ?_ ?_
        rotate_left
        · show Act.put _ (some 10) _ = _
          simp only [Act.put, List.setIfInBounds_toArray, List.set_cons_zero, List.set_cons_succ, i64_w, i32_w]
          rfl
        refine two_ (i := 5) (j := 6) (Ni := some 13) (Nj := some 6) #[true, true, true, true, true, true, false, true, false, false] #[true, true, true, true, true, false, true, true, false, false] rfl rfl rfl rfl (by kernel_rfl) (by decide) (by decide) (fun K hK => ?_) (fun K hK => ?_)
        · skip
          refine goes_ Try.func17 (by kernel_rfl) rfl #[.agg a, .int .i64 15, .int .i64 room, .bool true] (by rfl) rfl rfl (by simp only [List.map_toArray, List.map_cons, List.map_nil]; rfl) ?_
          with_reducible refine (H15.out _).mono ?_
          rintro e w22 ⟨rfl, hb⟩
          refine ⟨_, rfl, ?_⟩
          have n_ := Aside0.mk (blk_below K7.out hb)
          clear K7
          have K7 := n_
          clear n_
          refine hK.out _ _ ⟨(blk_below hHeld.1 hb), (below_step hHeld.2 hb)⟩ (fun hHeld => ?_)
          clear hK K
          refine norm_ (a' := ?_) ?_ ?_
          rotate_left
          · show Act.put _ (some 13) _ = _
            simp only [Act.put, List.setIfInBounds_toArray, List.set_cons_zero, List.set_cons_succ, i64_w, i32_w]
            rfl
          refine one_ (i := 6) (N := some 6) #[true, true, true, true, true, true, true, true, false, false] rfl rfl (by kernel_rfl) (by decide) (fun K hK => ?_)
          refine box_step ?hg (N := 6) ?hd (cs := #[.int .i64 0, .int .i64 0, .int .i64 0, .int .i64 0]) (t := 28) ?hr ?_; (case hd => rfl); (case hg => rfl); (case hr => first | (go_simp; done) | (go_simp; rfl))
          intro b6 hg_ w23 hbox hb
          have GE6 : Aside0 (w.heap.size ≤ b6) := ⟨by rw [hg_]; exact below_size hHeld.2⟩
          have N6 : Aside0 (gs ≠ b6) := ⟨by rw [hg_]; exact Nat.ne_of_lt (blk_lt hHeld.1)⟩
          have N67 : Aside0 (b6 ≠ b7) := ⟨by rw [hg_]; exact Nat.ne_of_gt (blk_lt K7.out)⟩
          have n_ := Aside0.mk (blk_below K7.out hb)
          clear K7
          have K7 := n_
          clear n_
          have K6 := Aside0.mk hbox
          clear hbox hg_
          refine hK.out _ _ ⟨(blk_below hHeld.1 hb), (below_step hHeld.2 hb)⟩ (fun hHeld => ?_)
          clear hK K
          refine norm_ (a' := ?_) ?_ ?_
          rotate_left
          · show Act.put _ (some 6) _ = _
            simp only [Act.put, List.setIfInBounds_toArray, List.set_cons_zero, List.set_cons_succ, i64_w, i32_w]
            rfl
          exact norm_ (by simp only [putAll, Act.put, List.setIfInBounds_toArray, List.set_cons_zero, List.set_cons_succ]) (hCont (b6, b7) _ ⟨hHeld, K6.out, K7.out, GE6.out, GE7.out, N6.out, N7.out, N67.out⟩)
        · skip
          refine box_step ?hg (N := 6) ?hd (cs := #[.int .i64 0, .int .i64 0, .int .i64 0, .int .i64 0]) (t := 28) ?hr ?_; (case hd => rfl); (case hg => rfl); (case hr => first | (go_simp; done) | (go_simp; rfl))
          intro b6 hg_ w22 hbox hb
          have GE6 : Aside0 (w.heap.size ≤ b6) := ⟨by rw [hg_]; exact below_size hHeld.2⟩
          have N6 : Aside0 (gs ≠ b6) := ⟨by rw [hg_]; exact Nat.ne_of_lt (blk_lt hHeld.1)⟩
          have N67 : Aside0 (b6 ≠ b7) := ⟨by rw [hg_]; exact Nat.ne_of_gt (blk_lt K7.out)⟩
          have n_ := Aside0.mk (blk_below K7.out hb)
          clear K7
          have K7 := n_
          clear n_
          have K6 := Aside0.mk hbox
          clear hbox hg_
          refine hK.out _ _ ⟨(blk_below hHeld.1 hb), (below_step hHeld.2 hb)⟩ (fun hHeld => ?_)
          clear hK K
          refine norm_ (a' := ?_) ?_ ?_
          rotate_left
          · show Act.put _ (some 6) _ = _
            simp only [Act.put, List.setIfInBounds_toArray, List.set_cons_zero, List.set_cons_succ, i64_w, i32_w]
            rfl
          refine one_ (i := 5) (N := some 13) #[true, true, true, true, true, true, true, true, false, false] rfl rfl (by kernel_rfl) (by decide) (fun K hK => ?_)
          refine goes_ Try.func17 (by kernel_rfl) rfl #[.agg a, .int .i64 15, .int .i64 room, .bool true] (by rfl) rfl rfl (by simp only [List.map_toArray, List.map_cons, List.map_nil]; rfl) ?_
          with_reducible refine (H15.out _).mono ?_
          rintro e w23 ⟨rfl, hb⟩
          refine ⟨_, rfl, ?_⟩
          have n_ := Aside0.mk (blk_below K7.out hb)
          clear K7
          have K7 := n_
          clear n_
          have n_ := Aside0.mk (blk_below K6.out hb)
          clear K6
          have K6 := n_
          clear n_
          refine hK.out _ _ ⟨(blk_below hHeld.1 hb), (below_step hHeld.2 hb)⟩ (fun hHeld => ?_)
          clear hK K
          refine norm_ (a' := ?_) ?_ ?_
          rotate_left
          · show Act.put _ (some 13) _ = _
            simp only [Act.put, List.setIfInBounds_toArray, List.set_cons_zero, List.set_cons_succ, i64_w, i32_w]
            rfl
          exact norm_ (by simp only [putAll, Act.put, List.setIfInBounds_toArray, List.set_cons_zero, List.set_cons_succ]) (hCont (b6, b7) _ ⟨hHeld, K6.out, K7.out, GE6.out, GE7.out, N6.out, N7.out, N67.out⟩)
      · skip
        refine box_step ?hg (N := 6) ?hd (cs := #[.int .i64 0, .int .i64 0, .int .i64 0, .int .i64 0]) (t := 28) ?hr ?_; (case hd => rfl); (case hg => rfl); (case hr => first | (go_simp; done) | (go_simp; rfl))
        intro b6 hg_ w21 hbox hb
        have GE6 : Aside0 (w.heap.size ≤ b6) := ⟨by rw [hg_]; exact below_size hHeld.2⟩
        have N6 : Aside0 (gs ≠ b6) := ⟨by rw [hg_]; exact Nat.ne_of_lt (blk_lt hHeld.1)⟩
        have N67 : Aside0 (b6 ≠ b7) := ⟨by rw [hg_]; exact Nat.ne_of_gt (blk_lt K7.out)⟩
        have n_ := Aside0.mk (blk_below K7.out hb)
        clear K7
        have K7 := n_
        clear n_
        have K6 := Aside0.mk hbox
        clear hbox hg_
        refine hK.out _ _ ⟨(blk_below hHeld.1 hb), (below_step hHeld.2 hb)⟩ (fun hHeld => ?_)
        clear hK K
        refine norm_ (a' := ?_) ?_ ?_
        rotate_left
        · show Act.put _ (some 6) _ = _
          simp only [Act.put, List.setIfInBounds_toArray, List.set_cons_zero, List.set_cons_succ, i64_w, i32_w]
          rfl
        refine one_ (i := 2) (N := some 10) #[true, true, true, true, true, false, true, true, false, false] rfl rfl (by kernel_rfl) (by decide) (fun K hK => ?_)
        refine goes_ Try.func17 (by kernel_rfl) rfl #[.agg a, .int .i64 19, .int .i64 room, .bool true] (by rfl) rfl rfl (by simp only [List.map_toArray, List.map_cons, List.map_nil]; rfl) ?_
        with_reducible refine (H19.out _).mono ?_
        rintro e w22 ⟨rfl, hb⟩
        refine ⟨_, rfl, ?_⟩
        have n_ := Aside0.mk (blk_below K7.out hb)
        clear K7
        have K7 := n_
        clear n_
        have n_ := Aside0.mk (blk_below K6.out hb)
        clear K6
        have K6 := n_
        clear n_
        refine hK.out _ _ ⟨(blk_below hHeld.1 hb), (below_step hHeld.2 hb)⟩ (fun hHeld => ?_)
        clear hK K
        refine norm_ (a' := ?_) ?_ ?_
        rotate_left
        · show Act.put _ (some 10) _ = _
          simp only [Act.put, List.setIfInBounds_toArray, List.set_cons_zero, List.set_cons_succ, i64_w, i32_w]
          rfl
        refine one_ (i := 5) (N := some 13) #[true, true, true, true, true, true, true, true, false, false] rfl rfl (by kernel_rfl) (by decide) (fun K hK => ?_)
        refine goes_ Try.func17 (by kernel_rfl) rfl #[.agg a, .int .i64 15, .int .i64 room, .bool true] (by rfl) rfl rfl (by simp only [List.map_toArray, List.map_cons, List.map_nil]; rfl) ?_
        with_reducible refine (H15.out _).mono ?_
        rintro e w23 ⟨rfl, hb⟩
        refine ⟨_, rfl, ?_⟩
        have n_ := Aside0.mk (blk_below K7.out hb)
        clear K7
        have K7 := n_
        clear n_
        have n_ := Aside0.mk (blk_below K6.out hb)
        clear K6
        have K6 := n_
        clear n_
        refine hK.out _ _ ⟨(blk_below hHeld.1 hb), (below_step hHeld.2 hb)⟩ (fun hHeld => ?_)
        clear hK K
        refine norm_ (a' := ?_) ?_ ?_
        rotate_left
        · show Act.put _ (some 13) _ = _
          simp only [Act.put, List.setIfInBounds_toArray, List.set_cons_zero, List.set_cons_succ, i64_w, i32_w]
          rfl
        exact norm_ (by simp only [putAll, Act.put, List.setIfInBounds_toArray, List.set_cons_zero, List.set_cons_succ]) (hCont (b6, b7) _ ⟨hHeld, K6.out, K7.out, GE6.out, GE7.out, N6.out, N7.out, N67.out⟩)
  rintro ⟨b6, b7⟩ w9 ⟨hHeld, k6, k7, ge6, ge7, n6, n7, n67⟩
  have K6 := Aside0.mk k6
  have K7 := Aside0.mk k7
  have n76 := n67.symm
  clear k6 k7
  refine norm_ (a' := ?_) ?_ ?_
  rotate_left
  · simp only [putAll, Act.put, List.setIfInBounds_toArray, List.set_cons_zero, List.set_cons_succ]
    rfl
  refine one_ (i := 8) (N := none) #[true, true, true, true, true, true, true, true, true, false] rfl rfl (by kernel_rfl) (by decide) (fun K hK => ?_)
  have z0 : w9.cell? ⟨b6, 0, none⟩ = some (.int .i64 0) := (blk_cell K6.out 0).trans rfl
  have y0 := blk_frozen K6.out 0
  have z1 : w9.cell? ⟨b6, 1, none⟩ = some (.int .i64 0) := (blk_cell K6.out 1).trans rfl
  have y1 := blk_frozen K6.out 1
  have z2 : w9.cell? ⟨b6, 2, none⟩ = some (.int .i64 0) := (blk_cell K6.out 2).trans rfl
  have y2 := blk_frozen K6.out 2
  have z3 : w9.cell? ⟨b6, 3, none⟩ = some (.int .i64 0) := (blk_cell K6.out 3).trans rfl
  have y3 := blk_frozen K6.out 3
  refine skip_ (w1 := ?_) (by rfl) rfl ?_ ?_
  rotate_left
  · go_simp
    rfl
  refine hK.out _ _ ⟨(blk_far (blk_far (blk_far (blk_far (hHeld.1) n6 _) n6 _) n6 _) n6 _), (((((hHeld.2).setCell ge6 _).setCell ge6 _).setCell ge6 _).setCell ge6 _)⟩ (fun hHeld => ?_)
  clear hK K
  refine one_ (i := 9) (N := none) #[true, true, true, true, true, true, true, true, true, true] rfl rfl (by kernel_rfl) (by decide) (fun K hK => ?_)
  clear z0 z1 z2 z3 y0 y1 y2 y3
  have K6b : Aside0 (((((w9.setCell ⟨b6, 0, none⟩ (.int .i64 g0)).setCell ⟨b6, 1, none⟩ (.int .i64 g1)).setCell ⟨b6, 2, none⟩ (.int .i64 g2)).setCell ⟨b6, 3, none⟩ (.int .i64 g3)).heap[b6]? = some (.cells #[.int .i64 g0, .int .i64 g1, .int .i64 g2, .int .i64 g3] 28 (0, 0))) := ⟨blk_put (blk_put (blk_put (blk_put (K6.out) 0 (.int .i64 g0) rfl) 1 (.int .i64 g1) rfl) 2 (.int .i64 g2) rfl) 3 (.int .i64 g3) rfl⟩
  have K7b : Aside0 (((((w9.setCell ⟨b6, 0, none⟩ (.int .i64 g0)).setCell ⟨b6, 1, none⟩ (.int .i64 g1)).setCell ⟨b6, 2, none⟩ (.int .i64 g2)).setCell ⟨b6, 3, none⟩ (.int .i64 g3)).heap[b7]? = some (.cells #[.int .i64 0, .int .i64 0, .int .i64 0, .int .i64 0] 28 (0, 0))) := ⟨blk_far (blk_far (blk_far (blk_far (K7.out) n76 _) n76 _) n76 _) n76 _⟩
  clear K6 K7
  generalize ((((w9.setCell ⟨b6, 0, none⟩ (.int .i64 g0)).setCell ⟨b6, 1, none⟩ (.int .i64 g1)).setCell ⟨b6, 2, none⟩ (.int .i64 g2)).setCell ⟨b6, 3, none⟩ (.int .i64 g3)) = w10 at hHeld K6b K7b ⊢
  have z0 : w10.cell? ⟨b7, 0, none⟩ = some (.int .i64 0) := (blk_cell K7b.out 0).trans rfl
  have y0 := blk_frozen K7b.out 0
  have z1 : w10.cell? ⟨b7, 1, none⟩ = some (.int .i64 0) := (blk_cell K7b.out 1).trans rfl
  have y1 := blk_frozen K7b.out 1
  have z2 : w10.cell? ⟨b7, 2, none⟩ = some (.int .i64 0) := (blk_cell K7b.out 2).trans rfl
  have y2 := blk_frozen K7b.out 2
  have z3 : w10.cell? ⟨b7, 3, none⟩ = some (.int .i64 0) := (blk_cell K7b.out 3).trans rfl
  have y3 := blk_frozen K7b.out 3
  refine skip_ (w1 := ?_) (by rfl) rfl ?_ ?_
  rotate_left
  · go_simp
    rfl
  refine hK.out _ _ ⟨(blk_far (blk_far (blk_far (blk_far (hHeld.1) n7 _) n7 _) n7 _) n7 _), (((((hHeld.2).setCell ge7 _).setCell ge7 _).setCell ge7 _).setCell ge7 _)⟩ (fun hHeld => ?_)
  clear hK K
  refine done_ (by kernel_rfl) ?_
  clear z0 z1 z2 z3 y0 y1 y2 y3
  have K6c : Aside0 (((((w10.setCell ⟨b7, 0, none⟩ (.int .i64 h0)).setCell ⟨b7, 1, none⟩ (.int .i64 h1)).setCell ⟨b7, 2, none⟩ (.int .i64 h2)).setCell ⟨b7, 3, none⟩ (.int .i64 h3)).heap[b6]? = some (.cells #[.int .i64 g0, .int .i64 g1, .int .i64 g2, .int .i64 g3] 28 (0, 0))) := ⟨blk_far (blk_far (blk_far (blk_far (K6b.out) n67 _) n67 _) n67 _) n67 _⟩
  have K7c : Aside0 (((((w10.setCell ⟨b7, 0, none⟩ (.int .i64 h0)).setCell ⟨b7, 1, none⟩ (.int .i64 h1)).setCell ⟨b7, 2, none⟩ (.int .i64 h2)).setCell ⟨b7, 3, none⟩ (.int .i64 h3)).heap[b7]? = some (.cells #[.int .i64 h0, .int .i64 h1, .int .i64 h2, .int .i64 h3] 28 (0, 0))) := ⟨blk_put (blk_put (blk_put (blk_put (K7b.out) 0 (.int .i64 h0) rfl) 1 (.int .i64 h1) rfl) 2 (.int .i64 h2) rfl) 3 (.int .i64 h3) rfl⟩
  have HB2 := Aside0.mk hHeld.2
  clear K6b K7b hHeld
  generalize ((((w10.setCell ⟨b7, 0, none⟩ (.int .i64 h0)).setCell ⟨b7, 1, none⟩ (.int .i64 h1)).setCell ⟨b7, 2, none⟩ (.int .i64 h2)).setCell ⟨b7, 3, none⟩ (.int .i64 h3)) = w11 at K6c K7c HB2 ⊢
  go_wp2
  refine start_ (n := 24) (S := fun w' => w'.cell? ⟨b6, 0, none⟩ = some (.int .i64 g0) ∧ w'.cell? ⟨b6, 1, none⟩ = some (.int .i64 g1) ∧ w'.cell? ⟨b6, 2, none⟩ = some (.int .i64 g2) ∧ w'.cell? ⟨b6, 3, none⟩ = some (.int .i64 g3) ∧ w'.cell? ⟨b7, 0, none⟩ = some (.int .i64 h0) ∧ w'.cell? ⟨b7, 1, none⟩ = some (.int .i64 h1) ∧ w'.cell? ⟨b7, 2, none⟩ = some (.int .i64 h2) ∧ w'.cell? ⟨b7, 3, none⟩ = some (.int .i64 h3) ∧ Below w.heap.size w w') (ds := []) #[false, false, false, false, false, false, false, false, false, false, false, false, false, false, false, false, false, false, false, false, false, false, false, false] (by kernel_rfl) rfl rfl ⟨(blk_cell K6c.out 0).trans rfl, (blk_cell K6c.out 1).trans rfl, (blk_cell K6c.out 2).trans rfl, (blk_cell K6c.out 3).trans rfl, (blk_cell K7c.out 0).trans rfl, (blk_cell K7c.out 1).trans rfl, (blk_cell K7c.out 2).trans rfl, (blk_cell K7c.out 3).trans rfl, below_drew1 HB2.out⟩ (fun hHeld => ?_)
  refine pure_ (i := 0) (N := some 14) (v := ?_) (a' := ?_) #[true, false, false, false, false, false, false, false, false, false, false, false, false, false, false, false, false, false, false, false, false, false, false, false] rfl rfl (by kernel_rfl) (fun _ _ _ h => h) (Or.inl ⟨by rfl, ?_⟩) ?_ ?_
  rotate_left
  · intro w'
    go_simp
    with_reducible rfl
  rotate_left
  · simp only [Act.put, List.setIfInBounds_toArray, List.set_cons_zero, List.set_cons_succ, i64_w, i32_w]
    rfl
  refine pure_ (i := 2) (N := some 16) (v := ?_) (a' := ?_) #[true, false, true, false, false, false, false, false, false, false, false, false, false, false, false, false, false, false, false, false, false, false, false, false] rfl rfl (by kernel_rfl) (fun _ _ _ h => h) (Or.inl ⟨by rfl, ?_⟩) ?_ ?_
  rotate_left
  · intro w'
    go_simp
    with_reducible rfl
  rotate_left
  · simp only [Act.put, List.setIfInBounds_toArray, List.set_cons_zero, List.set_cons_succ, i64_w, i32_w]
    rfl
  refine pure_ (i := 5) (N := some 19) (v := ?_) (a' := ?_) #[true, false, true, false, false, true, false, false, false, false, false, false, false, false, false, false, false, false, false, false, false, false, false, false] rfl rfl (by kernel_rfl) (fun _ _ _ h => h) (Or.inl ⟨by rfl, ?_⟩) ?_ ?_
  rotate_left
  · intro w'
    go_simp
    with_reducible rfl
  rotate_left
  · simp only [Act.put, List.setIfInBounds_toArray, List.set_cons_zero, List.set_cons_succ, i64_w, i32_w]
    rfl
  refine pure_ (i := 8) (N := some 22) (v := ?_) (a' := ?_) #[true, false, true, false, false, true, false, false, true, false, false, false, false, false, false, false, false, false, false, false, false, false, false, false] rfl rfl (by kernel_rfl) (fun _ _ _ h => h) (Or.inl ⟨by rfl, ?_⟩) ?_ ?_
  rotate_left
  · intro w'
    go_simp
    with_reducible rfl
  rotate_left
  · simp only [Act.put, List.setIfInBounds_toArray, List.set_cons_zero, List.set_cons_succ, i64_w, i32_w]
    rfl
  refine pure_ (i := 11) (N := some 25) (v := ?_) (a' := ?_) #[true, false, true, false, false, true, false, false, true, false, false, true, false, false, false, false, false, false, false, false, false, false, false, false] rfl rfl (by kernel_rfl) (fun _ _ _ h => h) (Or.inl ⟨by rfl, ?_⟩) ?_ ?_
  rotate_left
  · intro w'
    go_simp
    with_reducible rfl
  rotate_left
  · simp only [Act.put, List.setIfInBounds_toArray, List.set_cons_zero, List.set_cons_succ, i64_w, i32_w]
    rfl
  refine pure_ (i := 13) (N := some 27) (v := ?_) (a' := ?_) #[true, false, true, false, false, true, false, false, true, false, false, true, false, true, false, false, false, false, false, false, false, false, false, false] rfl rfl (by kernel_rfl) (fun _ _ _ h => h) (Or.inl ⟨by rfl, ?_⟩) ?_ ?_
  rotate_left
  · intro w'
    go_simp
    with_reducible rfl
  rotate_left
  · simp only [Act.put, List.setIfInBounds_toArray, List.set_cons_zero, List.set_cons_succ, i64_w, i32_w]
    rfl
  refine pure_ (i := 16) (N := some 30) (v := ?_) (a' := ?_) #[true, false, true, false, false, true, false, false, true, false, false, true, false, true, false, false, true, false, false, false, false, false, false, false] rfl rfl (by kernel_rfl) (fun _ _ _ h => h) (Or.inl ⟨by rfl, ?_⟩) ?_ ?_
  rotate_left
  · intro w'
    go_simp
    with_reducible rfl
  rotate_left
  · simp only [Act.put, List.setIfInBounds_toArray, List.set_cons_zero, List.set_cons_succ, i64_w, i32_w]
    rfl
  refine pure_ (i := 19) (N := some 33) (v := ?_) (a' := ?_) #[true, false, true, false, false, true, false, false, true, false, false, true, false, true, false, false, true, false, false, true, false, false, false, false] rfl rfl (by kernel_rfl) (fun _ _ _ h => h) (Or.inl ⟨by rfl, ?_⟩) ?_ ?_
  rotate_left
  · intro w'
    go_simp
    with_reducible rfl
  rotate_left
  · simp only [Act.put, List.setIfInBounds_toArray, List.set_cons_zero, List.set_cons_succ, i64_w, i32_w]
    rfl
  refine take_ (i := 1) (N := some 15) (v := ?_) (a' := ?_) #[true, true, true, false, false, true, false, false, true, false, false, true, false, true, false, false, true, false, false, true, false, false, false, false] rfl rfl (by kernel_rfl) (fun _ _ _ h => h) (Or.inl ⟨by rfl, ?_⟩) hHeld ?_ ?_
  rotate_left
  · rintro w' ⟨s0, s1, s2, s3, s4, s5, s6, s7, s8⟩
    go_simp
    with_reducible rfl
  rotate_left
  · simp only [Act.put, List.setIfInBounds_toArray, List.set_cons_zero, List.set_cons_succ, i64_w, i32_w]
    rfl
  refine take_ (i := 3) (N := some 17) (v := ?_) (a' := ?_) #[true, true, true, true, false, true, false, false, true, false, false, true, false, true, false, false, true, false, false, true, false, false, false, false] rfl rfl (by kernel_rfl) (fun _ _ _ h => h) (Or.inl ⟨by rfl, ?_⟩) hHeld ?_ ?_
  rotate_left
  · rintro w' ⟨s0, s1, s2, s3, s4, s5, s6, s7, s8⟩
    go_simp
    with_reducible rfl
  rotate_left
  · simp only [Act.put, List.setIfInBounds_toArray, List.set_cons_zero, List.set_cons_succ, i64_w, i32_w]
    rfl
  refine pure_ (i := 4) (N := some 18) (v := ?_) (a' := ?_) #[true, true, true, true, true, true, false, false, true, false, false, true, false, true, false, false, true, false, false, true, false, false, false, false] rfl rfl (by kernel_rfl) (fun _ _ _ h => h) (Or.inl ⟨by rfl, ?_⟩) ?_ ?_
  rotate_left
  · intro w'
    go_simp
    with_reducible rfl
  rotate_left
  · simp only [Act.put, List.setIfInBounds_toArray, List.set_cons_zero, List.set_cons_succ, i64_w, i32_w]
    rfl
  refine take_ (i := 6) (N := some 20) (v := ?_) (a' := ?_) #[true, true, true, true, true, true, true, false, true, false, false, true, false, true, false, false, true, false, false, true, false, false, false, false] rfl rfl (by kernel_rfl) (fun _ _ _ h => h) (Or.inl ⟨by rfl, ?_⟩) hHeld ?_ ?_
  rotate_left
  · rintro w' ⟨s0, s1, s2, s3, s4, s5, s6, s7, s8⟩
    go_simp
    with_reducible rfl
  rotate_left
  · simp only [Act.put, List.setIfInBounds_toArray, List.set_cons_zero, List.set_cons_succ, i64_w, i32_w]
    rfl
  refine pure_ (i := 7) (N := some 21) (v := ?_) (a' := ?_) #[true, true, true, true, true, true, true, true, true, false, false, true, false, true, false, false, true, false, false, true, false, false, false, false] rfl rfl (by kernel_rfl) (fun _ _ _ h => h) (Or.inl ⟨by rfl, ?_⟩) ?_ ?_
  rotate_left
  · intro w'
    go_simp
    with_reducible rfl
  rotate_left
  · simp only [Act.put, List.setIfInBounds_toArray, List.set_cons_zero, List.set_cons_succ, i64_w, i32_w]
    rfl
  refine take_ (i := 9) (N := some 23) (v := ?_) (a' := ?_) #[true, true, true, true, true, true, true, true, true, true, false, true, false, true, false, false, true, false, false, true, false, false, false, false] rfl rfl (by kernel_rfl) (fun _ _ _ h => h) (Or.inl ⟨by rfl, ?_⟩) hHeld ?_ ?_
  rotate_left
  · rintro w' ⟨s0, s1, s2, s3, s4, s5, s6, s7, s8⟩
    go_simp
    with_reducible rfl
  rotate_left
  · simp only [Act.put, List.setIfInBounds_toArray, List.set_cons_zero, List.set_cons_succ, i64_w, i32_w]
    rfl
  refine pure_ (i := 10) (N := some 24) (v := ?_) (a' := ?_) #[true, true, true, true, true, true, true, true, true, true, true, true, false, true, false, false, true, false, false, true, false, false, false, false] rfl rfl (by kernel_rfl) (fun _ _ _ h => h) (Or.inl ⟨by rfl, ?_⟩) ?_ ?_
  rotate_left
  · intro w'
    go_simp
    with_reducible rfl
  rotate_left
  · simp only [Act.put, List.setIfInBounds_toArray, List.set_cons_zero, List.set_cons_succ, i64_w, i32_w]
    rfl
  refine pure_ (i := 22) (N := some 4) (v := ?_) (a' := ?_) #[true, true, true, true, true, true, true, true, true, true, true, true, false, true, false, false, true, false, false, true, false, false, true, false] rfl rfl (by kernel_rfl) (fun _ _ _ h => h) (Or.inl ⟨by rfl, ?_⟩) ?_ ?_
  rotate_left
  · intro w'
    go_simp
    with_reducible rfl
  rotate_left
  · simp only [Act.put, List.setIfInBounds_toArray, List.set_cons_zero, List.set_cons_succ, i64_w, i32_w]
    rfl
  refine take_ (i := 12) (N := some 26) (v := ?_) (a' := ?_) #[true, true, true, true, true, true, true, true, true, true, true, true, true, true, false, false, true, false, false, true, false, false, true, false] rfl rfl (by kernel_rfl) (fun _ _ _ h => h) (Or.inl ⟨by rfl, ?_⟩) hHeld ?_ ?_
  rotate_left
  · rintro w' ⟨s0, s1, s2, s3, s4, s5, s6, s7, s8⟩
    go_simp
    with_reducible rfl
  rotate_left
  · simp only [Act.put, List.setIfInBounds_toArray, List.set_cons_zero, List.set_cons_succ, i64_w, i32_w]
    rfl
  refine take_ (i := 14) (N := some 28) (v := ?_) (a' := ?_) #[true, true, true, true, true, true, true, true, true, true, true, true, true, true, true, false, true, false, false, true, false, false, true, false] rfl rfl (by kernel_rfl) (fun _ _ _ h => h) (Or.inl ⟨by rfl, ?_⟩) hHeld ?_ ?_
  rotate_left
  · rintro w' ⟨s0, s1, s2, s3, s4, s5, s6, s7, s8⟩
    go_simp
    with_reducible rfl
  rotate_left
  · simp only [Act.put, List.setIfInBounds_toArray, List.set_cons_zero, List.set_cons_succ, i64_w, i32_w]
    rfl
  refine pure_ (i := 15) (N := some 29) (v := ?_) (a' := ?_) #[true, true, true, true, true, true, true, true, true, true, true, true, true, true, true, true, true, false, false, true, false, false, true, false] rfl rfl (by kernel_rfl) (fun _ _ _ h => h) (Or.inl ⟨by rfl, ?_⟩) ?_ ?_
  rotate_left
  · intro w'
    go_simp
    with_reducible rfl
  rotate_left
  · simp only [Act.put, List.setIfInBounds_toArray, List.set_cons_zero, List.set_cons_succ, i64_w, i32_w]
    rfl
  refine take_ (i := 17) (N := some 31) (v := ?_) (a' := ?_) #[true, true, true, true, true, true, true, true, true, true, true, true, true, true, true, true, true, true, false, true, false, false, true, false] rfl rfl (by kernel_rfl) (fun _ _ _ h => h) (Or.inl ⟨by rfl, ?_⟩) hHeld ?_ ?_
  rotate_left
  · rintro w' ⟨s0, s1, s2, s3, s4, s5, s6, s7, s8⟩
    go_simp
    with_reducible rfl
  rotate_left
  · simp only [Act.put, List.setIfInBounds_toArray, List.set_cons_zero, List.set_cons_succ, i64_w, i32_w]
    rfl
  refine pure_ (i := 18) (N := some 32) (v := ?_) (a' := ?_) #[true, true, true, true, true, true, true, true, true, true, true, true, true, true, true, true, true, true, true, true, false, false, true, false] rfl rfl (by kernel_rfl) (fun _ _ _ h => h) (Or.inl ⟨by rfl, ?_⟩) ?_ ?_
  rotate_left
  · intro w'
    go_simp
    with_reducible rfl
  rotate_left
  · simp only [Act.put, List.setIfInBounds_toArray, List.set_cons_zero, List.set_cons_succ, i64_w, i32_w]
    rfl
  refine take_ (i := 20) (N := some 34) (v := ?_) (a' := ?_) #[true, true, true, true, true, true, true, true, true, true, true, true, true, true, true, true, true, true, true, true, true, false, true, false] rfl rfl (by kernel_rfl) (fun _ _ _ h => h) (Or.inl ⟨by rfl, ?_⟩) hHeld ?_ ?_
  rotate_left
  · rintro w' ⟨s0, s1, s2, s3, s4, s5, s6, s7, s8⟩
    go_simp
    with_reducible rfl
  rotate_left
  · simp only [Act.put, List.setIfInBounds_toArray, List.set_cons_zero, List.set_cons_succ, i64_w, i32_w]
    rfl
  refine pure_ (i := 21) (N := some 35) (v := ?_) (a' := ?_) #[true, true, true, true, true, true, true, true, true, true, true, true, true, true, true, true, true, true, true, true, true, true, true, false] rfl rfl (by kernel_rfl) (fun _ _ _ h => h) (Or.inl ⟨by rfl, ?_⟩) ?_ ?_
  rotate_left
  · intro w'
    go_simp
    with_reducible rfl
  rotate_left
  · simp only [Act.put, List.setIfInBounds_toArray, List.set_cons_zero, List.set_cons_succ, i64_w, i32_w]
    rfl
  refine pure_ (i := 23) (N := some 5) (v := ?_) (a' := ?_) #[true, true, true, true, true, true, true, true, true, true, true, true, true, true, true, true, true, true, true, true, true, true, true, true] rfl rfl (by kernel_rfl) (fun _ _ _ h => h) (Or.inl ⟨by rfl, ?_⟩) ?_ ?_
  rotate_left
  · intro w'
    go_simp
    with_reducible rfl
  rotate_left
  · simp only [Act.put, List.setIfInBounds_toArray, List.set_cons_zero, List.set_cons_succ, i64_w, i32_w]
    rfl
  refine done_ (by kernel_rfl) ?_
  go_wp2
  have hb_ := hHeld.2.2.2.2.2.2.2.2
  exact bodyPost_ret (results_list (rs := [.tmp 4, .tmp 5]) rfl (by simp) (.tmp (.tmp .nil))) rfl ⟨⟨_, rfl⟩, hb_⟩
end Go.Proofs.Ytaejmgdpnnhpmaa.QSty
