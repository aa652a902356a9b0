/- table.Columns of one row of two cells of span 1, walked by hand. -/
import Derived.Test.YtaejmgdpnnhpmaaGivSort
import Derived.Test.YtaejmgdpnnhpmaaGivCells
import Derived.BigRegion
namespace Go.Proofs.Ytaejmgdpnnhpmaa.QTableWidths
open Go.RowKit Go.Proofs.YtaejmgdpnnhpmaaW.PrintWords Go.Proofs.YtaejmgdpnnhpmaaW.PrintLast Go.Proofs.YtaejmgdpnnhpmaaW.PrintMore
attribute [local go_sem] max2_int min2_int max_two min_two max_three min_three max_four min_four
set_option linter.unusedVariables false
set_option linter.unusedSimpArgs false
theorem two_of {w : World} {base : Nat} {v : Value} {x y : S116} (h : Kd.R k116 116 w base (fun _ => True) v [x, y]) :
    ∃ (g cap : Nat) (rest : List Value), v = .slice (some ⟨g, 0, none⟩) 2 cap ∧ base ≤ g ∧ w.heap[g]? = some (.cells (two x y rest).toArray 116 (0, 0)) ∧ 2 ≤ cap := by
  obtain ⟨_, inner, ho, hr⟩ := h
  rcases ho.2 with ⟨_, h0⟩ | ⟨g, cap, cur, hv, hb, hh, hnc, hcm, hcs, htake⟩
  · cases h0
  · have h1 := k116_openM (hr.2 0 x rfl)
    have h2 := k116_openM (hr.2 1 y rfl)
    have hl : inner.length = 8 := hr.1
    refine ⟨g, cap, cur.toList.drop 8, hv, hb, ?_, hnc⟩
    rw [hh]
    congr 2
    have h3 : two x y (cur.toList.drop 8) = cur.toList := by
      have h4 : cur.toList.take 8 = inner := htake
      have h5 : inner = inner.take 4 ++ (inner.drop 4).take 4 := by
        rw [List.take_of_length_le (l := inner.drop 4) (by simp; omega), List.take_append_drop]
      have h6 : inner.take 4 = [.int .i64 x.f0, .int .i64 x.f1, .int .i64 x.f2, .int .i64 x.f3] := h1
      have h7 : (inner.drop 4).take 4 = [.int .i64 y.f0, .int .i64 y.f1, .int .i64 y.f2, .int .i64 y.f3] := h2
      have h8 : two x y (cur.toList.drop 8) = inner ++ cur.toList.drop 8 := by
        rw [h5, h6, h7]; rfl
      rw [h8, ← h4, List.take_append_drop]
    rw [h3]
def duo (a b : Int) (tail : List Value) : List Value := [.int .i64 a, .int .i64 b] ++ tail
theorem duo_of {w : World} {base : Nat} {ok : Nat → Prop} {v : Value} {a b : Int} (h : Kd.R (Kd.int .i64) 3 w base ok v [a, b]) :
    ∃ (g cap : Nat) (tail : List Value), v = .slice (some ⟨g, 0, none⟩) 2 cap ∧ base ≤ g ∧ w.heap[g]? = some (.cells (duo a b tail).toArray 3 (0, 0)) ∧ 2 + tail.length = cap ∧ cap ≤ maxLen := by
  have ho := Kd.own_of_R h
  rcases ho.2 with ⟨_, h0⟩ | ⟨g, cap, cur, hv, hb, hh, hnc, hcm, hcs, htake⟩
  · cases h0
  · refine ⟨g, cap, cur.toList.drop 2, hv, hb, ?_, by have : cur.size = cap * 1 := hcs; have : 2 ≤ cap := hnc; simp; omega, hcm⟩
    rw [hh]
    congr 2
    have h4 : cur.toList.take 2 = [.int .i64 a, .int .i64 b] := htake
    have h3 : duo a b (cur.toList.drop 2) = cur.toList := by
      unfold duo
      rw [← h4, List.take_append_drop]
    rw [h3]
theorem duo_own {w : World} {base g cap : Nat} {a b : Int} {tail : List Value} (hb : base ≤ g) (hh : w.heap[g]? = some (.cells (duo a b tail).toArray 3 (0, 0))) (hl : 2 + tail.length = cap) (hm : cap ≤ maxLen) :
    Kd.R (Kd.int .i64) 3 w base (fun _ => True) (.slice (some ⟨g, 0, none⟩) 2 cap) [a, b] := by
  refine Kd.R_of_own ?_ (fun _ _ => trivial)
  refine ⟨by simp [encs], .inr ⟨g, cap, _, by simp, hb, hh, (show 2 ≤ cap by omega), hm, ?_, ?_⟩⟩
  · simp [duo]; omega
  · simp [duo, encs]

set_option maxHeartbeats 16000000 in
set_option maxRecDepth 100000 in
theorem columns_calls (A : Option Addr) (c : Nat) (w : World) (hr : Kd.C (Kd.slice 123 k123) w A 1 [[⟨5, 9, 1⟩, ⟨2, 3, 1⟩]]) (hc : 1 ≤ c) :
    Calls Try.prog 34 #[.slice A 1 c] w fun e w' => ∃ v1 v2, e = .returned (.tuple #[v1, v2]) ∧ Kd.R (Kd.int .i64) 3 w' w.heap.size (fun _ => True) v1 [5, 2] ∧ Kd.R (Kd.int .i64) 3 w' w.heap.size (fun _ => True) v2 [9, 3] ∧ Below w.heap.size w w' := by
  have HR := Aside0.mk hr
  have HB := Aside0.mk (Below.refl w.heap.size w)
  clear hr
  go_enter Try.func34, Try.ntmps34
  go_wp2_with (go_at_call 82; (with_reducible refine (cells_closed A c _ HR.out hc).mono ?_); rintro e w1 ⟨v0, rfl, ho, hb⟩; have HB1 := Aside0.mk (below_step HB.out hb); obtain ⟨ga, capa, rest, hv, hga, hh, hca⟩ := two_of ho; subst hv; have HA := Aside0.mk hh; clear ho hb hh)

  obtain ⟨y126, hy126⟩ : ∃ y_ : List Int, y_ = List.replicate (2 : Int).toNat 0 := ⟨_, rfl⟩
  have Ny126 := Aside0.mk hy126
  clear hy126
  obtain ⟨y129, hy129⟩ : ∃ y_ : List Int, y_ = List.replicate (2 : Int).toNat 0 := ⟨_, rfl⟩
  have Ny129 := Aside0.mk hy129
  clear hy129
  have HB0 := HB1
  clear HB
  have HB := Aside0.mk (below_drew1 (Below.refl w1.heap.size w1))
  refine start_ (n := 6) (S := fun w' => True) (ds := []) #[false, false, false, false, false, false] (by kernel_rfl) rfl rfl trivial (fun hHeld => ?_)
  generalize w1.drew = w9 at HB hHeld ⊢
  refine pure_ (i := 0) (N := some 17) (v := ?_) (a' := ?_) #[true, false, false, false, false, false] rfl rfl (by kernel_rfl) (fun _ _ _ h => h) (Or.inl ⟨by rfl, ?_⟩) ?_ ?_
  rotate_left
  · intro w'
    go_simp
    with_reducible rfl
  rotate_left
  · simp only [Act.put, List.setIfInBounds_toArray, List.set_cons_zero, List.set_cons_succ, i64_w, i32_w]
    rfl
  refine pure_ (i := 2) (N := some 19) (v := ?_) (a' := ?_) #[true, false, true, false, false, false] rfl rfl (by kernel_rfl) (fun _ _ _ h => h) (Or.inl ⟨by rfl, ?_⟩) ?_ ?_
  rotate_left
  · intro w'
    go_simp
    with_reducible rfl
  rotate_left
  · simp only [Act.put, List.setIfInBounds_toArray, List.set_cons_zero, List.set_cons_succ, i64_w, i32_w]
    rfl
  refine join_ (σ := Value × Value) 1 #[true, true, true, true, true, false] (fun s_ => [(18, s_.1), (20, s_.2), (6, s_.1)]) (fun s_ w' => (Kd.R (Kd.int .i64) 3 w' w1.heap.size (fun k_ => some k_ ≠ (s_.2 : Value).ownBlock) s_.1 y126) ∧ (Kd.R (Kd.int .i64) 3 w' w1.heap.size (fun k_ => some k_ ≠ (s_.1 : Value).ownBlock) s_.2 y129) ∧ (Below w1.heap.size w1 w')) ?_ ?_
  rotate_left
  · intro hCont
    refine two_ (i := 1) (j := 3) (Ni := some 18) (Nj := some 20) #[true, true, true, false, false, false] #[true, false, true, true, false, false] rfl rfl rfl rfl (by kernel_rfl) (by decide) (by decide) (fun K hK => ?_) (fun K hK => ?_)
    · skip
      refine Kd.R_make_step (Kd.int .i64) _ 3 (by rfl) (N := 18) rfl 51 _ _ rfl (2 : Int) rfl rfl Try.underlying51 (.int .i64 0) 8 info3 rfl (by decide) (by omega) 0 (ok := fun _ => True) (okp := fun _ => True) rfl (fun _ hk => hk) trivial (by omega) (by simp) (Below.refl _ _) (Nat.le_refl _) ?_
      intro v127 w10 ho11 hb hg_ hnew_
      clear hg_ hnew_
      (first | rw [← Ny126.out] at ho11 | (simp only [Int.reduceToNat] at ho11; rw [← Ny126.out] at ho11))
      have n0_ := Aside0.mk (Kd.R_lower ho11 (below_size (by repeat (first | (with_reducible first | exact HB.out | apply below_alloc | apply pw_below_drewN | apply below_drew1) | exact HB.out))))
      have n1_ := Aside0.mk (below_step (by repeat (first | (with_reducible first | exact HB.out | apply below_alloc | apply pw_below_drewN | apply below_drew1) | exact HB.out)) hb)
      clear HB
      have HO128 := n0_
      have HB := n1_
      clear n0_ n1_
      clear hb ho11
      refine hK.out _ _ trivial (fun hHeld => ?_)
      clear hK K
      refine norm_ (a' := ?_) ?_ ?_
      rotate_left
      · show Act.put _ (some 18) _ = _
        simp only [Act.put, List.setIfInBounds_toArray, List.set_cons_zero, List.set_cons_succ, i64_w, i32_w]
        rfl
      refine pure_ (i := 4) (N := some 6) (v := ?_) (a' := ?_) #[true, true, true, false, true, false] rfl rfl (by kernel_rfl) (fun _ _ _ h => h) (Or.inl ⟨by rfl, ?_⟩) ?_ ?_
      rotate_left
      · intro w'
        go_simp
        with_reducible rfl
      rotate_left
      · simp only [Act.put, List.setIfInBounds_toArray, List.set_cons_zero, List.set_cons_succ, i64_w, i32_w]
        rfl
      refine one_ (i := 3) (N := some 20) #[true, true, true, true, true, false] rfl rfl (by kernel_rfl) (by decide) (fun K hK => ?_)
      refine Kd.R_make_step (Kd.int .i64) _ 3 (by rfl) (N := 20) rfl 51 _ _ rfl (2 : Int) rfl rfl Try.underlying51 (.int .i64 0) 8 info3 rfl (by decide) (by omega) 0 (ok := fun _ => True) (okp := fun _ => True) rfl (fun _ hk => hk) trivial (by omega) (by simp) (Below.refl _ _) (Nat.le_refl _) ?_
      intro v130 w12 ho13 hb hg_ hnew_
      clear hg_ hnew_
      (first | rw [← Ny129.out] at ho13 | (simp only [Int.reduceToNat] at ho13; rw [← Ny129.out] at ho13))
      have n0_ := Aside0.mk (Kd.R_elder' (by (with_reducible repeat (first | apply Kd.R_alloc | apply Kd.R_drewN | apply Kd.R_drew)); exact HO128.out) (Kd.R_base ho13) hb)
      have n1_ := Aside0.mk (Kd.R_lower (Kd.R_new' ho13 (Kd.R_lt (by (with_reducible repeat (first | apply Kd.R_alloc | apply Kd.R_drewN | apply Kd.R_drew)); exact HO128.out))) (below_size (by repeat (first | (with_reducible first | exact HB.out | apply below_alloc | apply pw_below_drewN | apply below_drew1) | exact HB.out))))
      have n2_ := Aside0.mk (below_step (by repeat (first | (with_reducible first | exact HB.out | apply below_alloc | apply pw_below_drewN | apply below_drew1) | exact HB.out)) hb)
      clear HO128
      clear HB
      have HO128 := n0_
      have HO131 := n1_
      have HB := n2_
      clear n0_ n1_ n2_
      clear hb ho13
      refine hK.out _ _ trivial (fun hHeld => ?_)
      clear hK K
      refine norm_ (a' := ?_) ?_ ?_
      rotate_left
      · show Act.put _ (some 20) _ = _
        simp only [Act.put, List.setIfInBounds_toArray, List.set_cons_zero, List.set_cons_succ, i64_w, i32_w]
        rfl
      exact norm_ (by simp only [putAll, Act.put, List.setIfInBounds_toArray, List.set_cons_zero, List.set_cons_succ]) (hCont (v127, v130) _ ⟨(by (with_reducible repeat (first | apply Kd.R_alloc | apply Kd.R_drewN | apply Kd.R_drew)); exact Kd.R_mono HO128.out (fun _ hk => hk.2)), (by (with_reducible repeat (first | apply Kd.R_alloc | apply Kd.R_drewN | apply Kd.R_drew)); exact Kd.R_mono HO131.out (fun _ hk => hk.2)), (by repeat (first | (with_reducible first | exact HB.out | apply below_alloc | apply pw_below_drewN | apply below_drew1) | exact HB.out))⟩)
    · skip
      refine Kd.R_make_step (Kd.int .i64) _ 3 (by rfl) (N := 20) rfl 51 _ _ rfl (2 : Int) rfl rfl Try.underlying51 (.int .i64 0) 8 info3 rfl (by decide) (by omega) 0 (ok := fun _ => True) (okp := fun _ => True) rfl (fun _ hk => hk) trivial (by omega) (by simp) (Below.refl _ _) (Nat.le_refl _) ?_
      intro v130 w10 ho11 hb hg_ hnew_
      clear hg_ hnew_
      (first | rw [← Ny129.out] at ho11 | (simp only [Int.reduceToNat] at ho11; rw [← Ny129.out] at ho11))
      have n0_ := Aside0.mk (Kd.R_lower ho11 (below_size (by repeat (first | (with_reducible first | exact HB.out | apply below_alloc | apply pw_below_drewN | apply below_drew1) | exact HB.out))))
      have n1_ := Aside0.mk (below_step (by repeat (first | (with_reducible first | exact HB.out | apply below_alloc | apply pw_below_drewN | apply below_drew1) | exact HB.out)) hb)
      clear HB
      have HO131 := n0_
      have HB := n1_
      clear n0_ n1_
      clear hb ho11
      refine hK.out _ _ trivial (fun hHeld => ?_)
      clear hK K
      refine norm_ (a' := ?_) ?_ ?_
      rotate_left
      · show Act.put _ (some 20) _ = _
        simp only [Act.put, List.setIfInBounds_toArray, List.set_cons_zero, List.set_cons_succ, i64_w, i32_w]
        rfl
      refine one_ (i := 1) (N := some 18) #[true, true, true, true, false, false] rfl rfl (by kernel_rfl) (by decide) (fun K hK => ?_)
      refine Kd.R_make_step (Kd.int .i64) _ 3 (by rfl) (N := 18) rfl 51 _ _ rfl (2 : Int) rfl rfl Try.underlying51 (.int .i64 0) 8 info3 rfl (by decide) (by omega) 0 (ok := fun _ => True) (okp := fun _ => True) rfl (fun _ hk => hk) trivial (by omega) (by simp) (Below.refl _ _) (Nat.le_refl _) ?_
      intro v127 w12 ho13 hb hg_ hnew_
      clear hg_ hnew_
      (first | rw [← Ny126.out] at ho13 | (simp only [Int.reduceToNat] at ho13; rw [← Ny126.out] at ho13))
      have n0_ := Aside0.mk (Kd.R_elder' (by (with_reducible repeat (first | apply Kd.R_alloc | apply Kd.R_drewN | apply Kd.R_drew)); exact HO131.out) (Kd.R_base ho13) hb)
      have n1_ := Aside0.mk (Kd.R_lower (Kd.R_new' ho13 (Kd.R_lt (by (with_reducible repeat (first | apply Kd.R_alloc | apply Kd.R_drewN | apply Kd.R_drew)); exact HO131.out))) (below_size (by repeat (first | (with_reducible first | exact HB.out | apply below_alloc | apply pw_below_drewN | apply below_drew1) | exact HB.out))))
      have n2_ := Aside0.mk (below_step (by repeat (first | (with_reducible first | exact HB.out | apply below_alloc | apply pw_below_drewN | apply below_drew1) | exact HB.out)) hb)
      clear HO131
      clear HB
      have HO131 := n0_
      have HO128 := n1_
      have HB := n2_
      clear n0_ n1_ n2_
      clear hb ho13
      refine hK.out _ _ trivial (fun hHeld => ?_)
      clear hK K
      refine norm_ (a' := ?_) ?_ ?_
      rotate_left
      · show Act.put _ (some 18) _ = _
        simp only [Act.put, List.setIfInBounds_toArray, List.set_cons_zero, List.set_cons_succ, i64_w, i32_w]
        rfl
      refine pure_ (i := 4) (N := some 6) (v := ?_) (a' := ?_) #[true, true, true, true, true, false] rfl rfl (by kernel_rfl) (fun _ _ _ h => h) (Or.inl ⟨by rfl, ?_⟩) ?_ ?_
      rotate_left
      · intro w'
        go_simp
        with_reducible rfl
      rotate_left
      · simp only [Act.put, List.setIfInBounds_toArray, List.set_cons_zero, List.set_cons_succ, i64_w, i32_w]
        rfl
      exact norm_ (by simp only [putAll, Act.put, List.setIfInBounds_toArray, List.set_cons_zero, List.set_cons_succ]) (hCont (v127, v130) _ ⟨(by (with_reducible repeat (first | apply Kd.R_alloc | apply Kd.R_drewN | apply Kd.R_drew)); exact Kd.R_mono HO128.out (fun _ hk => hk.2)), (by (with_reducible repeat (first | apply Kd.R_alloc | apply Kd.R_drewN | apply Kd.R_drew)); exact Kd.R_mono HO131.out (fun _ hk => hk.2)), (by repeat (first | (with_reducible first | exact HB.out | apply below_alloc | apply pw_below_drewN | apply below_drew1) | exact HB.out))⟩)
  rintro ⟨v127, v130⟩ w14 ⟨h0_, h1_, h2_⟩
  have n0_ : Aside0 (Kd.R (Kd.int .i64) 3 w14 w1.heap.size (fun k_ => some k_ ≠ (v130 : Value).ownBlock) v127 y126) := ⟨h0_⟩
  have n1_ : Aside0 (Kd.R (Kd.int .i64) 3 w14 w1.heap.size (fun k_ => some k_ ≠ (v127 : Value).ownBlock) v130 y129) := ⟨h1_⟩
  have n2_ : Aside0 (Below w1.heap.size w1 w14) := ⟨h2_⟩
  clear HB
  clear h0_ h1_ h2_
  have HO128 := n0_
  have HO131 := n1_
  have HB := n2_
  clear n0_ n1_ n2_
  have hHeld := trivial
  refine norm_ (a' := ?_) ?_ ?_
  rotate_left
  · simp only [putAll, Act.put, List.setIfInBounds_toArray, List.set_cons_zero, List.set_cons_succ]
    rfl
  refine pure_ (i := 5) (N := some 7) (v := ?_) (a' := ?_) #[true, true, true, true, true, true] rfl rfl (by kernel_rfl) (fun _ _ _ h => h) (Or.inl ⟨by rfl, ?_⟩) ?_ ?_
  rotate_left
  · intro w'
    go_simp
    with_reducible rfl
  rotate_left
  · simp only [Act.put, List.setIfInBounds_toArray, List.set_cons_zero, List.set_cons_succ, i64_w, i32_w]
    rfl
  refine done_ (by kernel_rfl) ?_
  have HO6 : Aside0 (Kd.R (Kd.int .i64) 3 w14 w1.heap.size (fun k_ => some k_ ≠ (v130 : Value).ownBlock) v127 [0, 0]) := ⟨by have h := HO128.out; rw [Ny126.out] at h; exact h⟩
  have HO7 : Aside0 (Kd.R (Kd.int .i64) 3 w14 w1.heap.size (fun k_ => some k_ ≠ (v127 : Value).ownBlock) v130 [0, 0]) := ⟨by have h := HO131.out; rw [Ny129.out] at h; exact h⟩
  clear HO128 HO131 Ny126 Ny129 hHeld
  clear y126 y129
  obtain ⟨gl, capl, taill, hv, hgl, hhl, hll, hml⟩ := duo_of HO6.out
  subst hv
  obtain ⟨gm, capm, tailm, hv, hgm, hhm, hlm, hmm⟩ := duo_of HO7.out
  subst hv
  have Nlm : gl ≠ gm := fun e => (HO6.out.1 gl rfl) (congrArg some e)
  have hgal := blk_lt HA.out
  have Nla : gl ≠ ga := by omega
  have Nma : gm ≠ ga := by omega
  have HA14 := Aside0.mk (blk_below HA.out HB.out)
  have HL14 := Aside0.mk hhl
  have HM14 := Aside0.mk hhm
  have HB14 := Aside0.mk (below_step HB0.out HB.out)
  have WA : Aside0 (w.heap.size ≤ ga) := ⟨hga⟩
  have HS1 := HB0.out.size
  have WL : Aside0 (w.heap.size ≤ gl) := ⟨by omega⟩
  have WM : Aside0 (w.heap.size ≤ gm) := ⟨by omega⟩
  have HML := Aside0.mk hml
  have HMM := Aside0.mk hmm
  clear HO6 HO7 HA HB HB0 hhl hhm hgl hgm hga hgal HS1 hml hmm
  have hse : wrap64 ((⟨2, 3, 1, 1⟩ : S116).f3 - (⟨5, 9, 0, 1⟩ : S116).f3) = 0 := by show wrap64 (1 - 1) = 0; unfold wrap64; omega
  have HSE := Aside0.mk hse
  clear hse
  go_wp2_with (go_at_call 83; (with_reducible refine (sort_calls ga capa ⟨5, 9, 0, 1⟩ ⟨2, 3, 1, 1⟩ rest _ hca HA14.out HSE.out).mono ?_); rintro e w15 ⟨rfl, hb⟩; have HA15 := Aside0.mk (blk_below HA14.out hb); have HL15 := Aside0.mk (blk_below HL14.out hb); have HM15 := Aside0.mk (blk_below HM14.out hb); have HB15 := Aside0.mk (below_step HB14.out hb); clear hb)
  clear HA14 HL14 HM14 HB14 HSE
  go_loopw [25] (fun v wr => ∃ k l0 l1 m0 m1 : Int, v = .int .i64 k ∧ ((k = 0 ∧ l0 = 0 ∧ l1 = 0 ∧ m0 = 0 ∧ m1 = 0) ∨ (k = 1 ∧ l0 = 5 ∧ l1 = 0 ∧ m0 = 9 ∧ m1 = 0) ∨ (k = 2 ∧ l0 = 5 ∧ l1 = 2 ∧ m0 = 9 ∧ m1 = 3)) ∧ Aside0 (wr.heap[gl]? = some (.cells (duo l0 l1 taill).toArray 3 (0, 0))) ∧ Aside0 (wr.heap[gm]? = some (.cells (duo m0 m1 tailm).toArray 3 (0, 0))) ∧ Aside0 (wr.heap[ga]? = some (.cells (two ⟨5, 9, 0, 1⟩ ⟨2, 3, 1, 1⟩ rest).toArray 116 (0, 0))) ∧ Aside0 (Below w.heap.size w wr)) (fun v _ => 2 - (intOf v).toNat)
  case atStart => exact ⟨0, 0, 0, 0, 0, rfl, Or.inl ⟨rfl, rfl, rfl, rfl, rfl⟩, HL15, HM15, HA15, HB15⟩
  case round =>
    obtain ⟨k, l0, l1, m0, m1, rfl, hk, HLr, HMr, HAr, HBr⟩ := hrel
    rcases hk with ⟨rfl, rfl, rfl, rfl, rfl⟩ | ⟨rfl, rfl, rfl, rfl, rfl⟩ | ⟨rfl, rfl, rfl, rfl, rfl⟩
    · have a0 : wr.cell? ⟨ga, 0, none⟩ = some (.int .i64 5) := (blk_cell HAr.out 0).trans rfl; have a1 : wr.cell? ⟨ga, 1, none⟩ = some (.int .i64 9) := (blk_cell HAr.out 1).trans rfl; have a2 : wr.cell? ⟨ga, 2, none⟩ = some (.int .i64 0) := (blk_cell HAr.out 2).trans rfl; have a3 : wr.cell? ⟨ga, 3, none⟩ = some (.int .i64 1) := (blk_cell HAr.out 3).trans rfl
      go_wp2_with ((with_reducible refine gate_dst (N := 9) rfl ?_); refine box_event rfl (N := 9) rfl (cs := #[.int .i64 0, .int .i64 0, .int .i64 0, .int .i64 0]) (t := 116) (by first | (go_simp; done) | (go_simp; rfl)) ?_; intro gc hg_ w16 hbx hb; have KC := Aside0.mk hbx; have KL := Aside0.mk (blk_below HLr.out hb); have KM := Aside0.mk (blk_below HMr.out hb); have KA := Aside0.mk (blk_below HAr.out hb); have KB := Aside0.mk (below_step HBr.out hb); have WC : Aside0 (w.heap.size ≤ gc) := ⟨by have h1 := HBr.out.size; omega⟩; have Nlc : gl ≠ gc := (by have h1 := blk_lt HLr.out; omega); have Nmc : gm ≠ gc := (by have h1 := blk_lt HMr.out; omega); have Nac : ga ≠ gc := (by have h1 := blk_lt HAr.out; omega); clear hg_ hb; have z0 : w16.cell? ⟨gc, 0, none⟩ = some (.int .i64 0) := (blk_cell hbx 0).trans rfl; have y0 := blk_frozen hbx 0; have z1 : w16.cell? ⟨gc, 1, none⟩ = some (.int .i64 0) := (blk_cell hbx 1).trans rfl; have y1 := blk_frozen hbx 1; have z2 : w16.cell? ⟨gc, 2, none⟩ = some (.int .i64 0) := (blk_cell hbx 2).trans rfl; have y2 := blk_frozen hbx 2; have z3 : w16.cell? ⟨gc, 3, none⟩ = some (.int .i64 0) := (blk_cell hbx 3).trans rfl; have y3 := blk_frozen hbx 3; clear hbx)
      have QL : Aside0 (((((w16.setCell ⟨gc, 0, none⟩ (.int .i64 5)).setCell ⟨gc, 1, none⟩ (.int .i64 9)).setCell ⟨gc, 2, none⟩ (.int .i64 0)).setCell ⟨gc, 3, none⟩ (.int .i64 1)).heap[gl]? = _) := ⟨blk_far (blk_far (blk_far (blk_far KL.out Nlc _) Nlc _) Nlc _) Nlc _⟩
      have QM : Aside0 (((((w16.setCell ⟨gc, 0, none⟩ (.int .i64 5)).setCell ⟨gc, 1, none⟩ (.int .i64 9)).setCell ⟨gc, 2, none⟩ (.int .i64 0)).setCell ⟨gc, 3, none⟩ (.int .i64 1)).heap[gm]? = _) := ⟨blk_far (blk_far (blk_far (blk_far KM.out Nmc _) Nmc _) Nmc _) Nmc _⟩
      have QA : Aside0 (((((w16.setCell ⟨gc, 0, none⟩ (.int .i64 5)).setCell ⟨gc, 1, none⟩ (.int .i64 9)).setCell ⟨gc, 2, none⟩ (.int .i64 0)).setCell ⟨gc, 3, none⟩ (.int .i64 1)).heap[ga]? = _) := ⟨blk_far (blk_far (blk_far (blk_far KA.out Nac _) Nac _) Nac _) Nac _⟩
      have QC : Aside0 (((((w16.setCell ⟨gc, 0, none⟩ (.int .i64 5)).setCell ⟨gc, 1, none⟩ (.int .i64 9)).setCell ⟨gc, 2, none⟩ (.int .i64 0)).setCell ⟨gc, 3, none⟩ (.int .i64 1)).heap[gc]? = some (.cells #[.int .i64 5, .int .i64 9, .int .i64 0, .int .i64 1] 116 (0, 0))) := ⟨blk_put (blk_put (blk_put (blk_put KC.out 0 (.int .i64 5) rfl) 1 (.int .i64 9) rfl) 2 (.int .i64 0) rfl) 3 (.int .i64 1) rfl⟩
      have QB : Aside0 (Below w.heap.size w ((((w16.setCell ⟨gc, 0, none⟩ (.int .i64 5)).setCell ⟨gc, 1, none⟩ (.int .i64 9)).setCell ⟨gc, 2, none⟩ (.int .i64 0)).setCell ⟨gc, 3, none⟩ (.int .i64 1))) := ⟨(((KB.out.setCell WC.out _).setCell WC.out _).setCell WC.out _).setCell WC.out _⟩
      clear KL KM KA KC KB z0 y0 a0 z1 y1 a1 z2 y2 a2 z3 y3 a3
      generalize ((((w16.setCell ⟨gc, 0, none⟩ (.int .i64 5)).setCell ⟨gc, 1, none⟩ (.int .i64 9)).setCell ⟨gc, 2, none⟩ (.int .i64 0)).setCell ⟨gc, 3, none⟩ (.int .i64 1)) = w17 at QL QM QA QC QB ⊢
      have c0 : w17.cell? ⟨gc, 0, none⟩ = some (.int .i64 5) := (blk_cell QC.out 0).trans rfl
      have c1 : w17.cell? ⟨gc, 1, none⟩ = some (.int .i64 9) := (blk_cell QC.out 1).trans rfl
      have c2 : w17.cell? ⟨gc, 2, none⟩ = some (.int .i64 0) := (blk_cell QC.out 2).trans rfl
      have c3 : w17.cell? ⟨gc, 3, none⟩ = some (.int .i64 1) := (blk_cell QC.out 3).trans rfl
      have cl : w17.cell? ⟨gl, 0, none⟩ = some (.int .i64 0) := (blk_cell QL.out 0).trans rfl
      have cm : w17.cell? ⟨gm, 0, none⟩ = some (.int .i64 0) := (blk_cell QM.out 0).trans rfl
      have fl := blk_frozen QL.out 0
      have fm := blk_frozen QM.out 0
      go_wp2_with fail
      have Ncl : gc ≠ gl := fun e => Nlc e.symm
      have Ncm : gc ≠ gm := fun e => Nmc e.symm
      have Nml : gm ≠ gl := fun e => Nlm e.symm
      refine start_ (n := 26) (S := fun w' => w'.cell? ⟨gc, 0, none⟩ = some (.int .i64 5) ∧ w'.cell? ⟨gc, 1, none⟩ = some (.int .i64 9) ∧ w'.cell? ⟨gc, 2, none⟩ = some (.int .i64 0) ∧ w'.cell? ⟨gc, 3, none⟩ = some (.int .i64 1)) (ds := []) #[false, false, false, false, false, false, false, false, false, false, false, false, false, false, false, false, false, false, false, false, false, false, false, false, false, false] (by kernel_rfl) rfl rfl ⟨(blk_cell (show w17.drew.heap[gc]? = _ from QC.out) 0).trans rfl, (blk_cell (show w17.drew.heap[gc]? = _ from QC.out) 1).trans rfl, (blk_cell (show w17.drew.heap[gc]? = _ from QC.out) 2).trans rfl, (blk_cell (show w17.drew.heap[gc]? = _ from QC.out) 3).trans rfl⟩ (fun hHeld => ?_)
      have QL8 : Aside0 (w17.drew.heap[gl]? = _) := ⟨QL.out⟩
      have QM8 : Aside0 (w17.drew.heap[gm]? = _) := ⟨QM.out⟩
      have QA8 : Aside0 (w17.drew.heap[ga]? = _) := ⟨QA.out⟩
      have QC8 : Aside0 (w17.drew.heap[gc]? = _) := ⟨QC.out⟩
      have QB8 := Aside0.mk (below_drew1 QB.out)
      clear QL QM QA QC QB c0 c1 c2 c3 cl cm fl fm
      generalize w17.drew = w18 at QL8 QM8 QA8 QC8 QB8 hHeld ⊢
      have cl : w18.cell? ⟨gl, 0, none⟩ = some (.int .i64 0) := (blk_cell QL8.out 0).trans rfl
      have cm : w18.cell? ⟨gm, 0, none⟩ = some (.int .i64 0) := (blk_cell QM8.out 0).trans rfl
      have fl := blk_frozen QL8.out 0
      have fm := blk_frozen QM8.out 0
      refine pure_ (i := 0) (N := some 37) (v := ?_) (a' := ?_) #[true, false, false, false, false, false, false, false, false, false, false, false, false, false, false, false, false, false, false, false, false, false, false, false, false, false] rfl rfl (by kernel_rfl) (fun _ _ _ h => h) (Or.inl ⟨by rfl, ?_⟩) ?_ ?_
      rotate_left
      · intro w'
        go_simp
        with_reducible rfl
      rotate_left
      · simp only [Act.put, List.setIfInBounds_toArray, List.set_cons_zero, List.set_cons_succ, i64_w, i32_w]
        rfl
      refine pure_ (i := 1) (N := some 38) (v := ?_) (a' := ?_) #[true, true, false, false, false, false, false, false, false, false, false, false, false, false, false, false, false, false, false, false, false, false, false, false, false, false] rfl rfl (by kernel_rfl) (fun _ _ _ h => h) (Or.inl ⟨by rfl, ?_⟩) ?_ ?_
      rotate_left
      · intro w'
        go_simp
        with_reducible rfl
      rotate_left
      · simp only [Act.put, List.setIfInBounds_toArray, List.set_cons_zero, List.set_cons_succ, i64_w, i32_w]
        rfl
      refine pure_ (i := 3) (N := some 40) (v := ?_) (a' := ?_) #[true, true, false, true, false, false, false, false, false, false, false, false, false, false, false, false, false, false, false, false, false, false, false, false, false, false] rfl rfl (by kernel_rfl) (fun _ _ _ h => h) (Or.inl ⟨by rfl, ?_⟩) ?_ ?_
      rotate_left
      · intro w'
        go_simp
        with_reducible rfl
      rotate_left
      · simp only [Act.put, List.setIfInBounds_toArray, List.set_cons_zero, List.set_cons_succ, i64_w, i32_w]
        rfl
      refine pure_ (i := 4) (N := some 41) (v := ?_) (a' := ?_) #[true, true, false, true, true, false, false, false, false, false, false, false, false, false, false, false, false, false, false, false, false, false, false, false, false, false] rfl rfl (by kernel_rfl) (fun _ _ _ h => h) (Or.inl ⟨by rfl, ?_⟩) ?_ ?_
      rotate_left
      · intro w'
        go_simp
        with_reducible rfl
      rotate_left
      · simp only [Act.put, List.setIfInBounds_toArray, List.set_cons_zero, List.set_cons_succ, i64_w, i32_w]
        rfl
      refine pure_ (i := 6) (N := some 43) (v := ?_) (a' := ?_) #[true, true, false, true, true, false, true, false, false, false, false, false, false, false, false, false, false, false, false, false, false, false, false, false, false, false] rfl rfl (by kernel_rfl) (fun _ _ _ h => h) (Or.inl ⟨by rfl, ?_⟩) ?_ ?_
      rotate_left
      · intro w'
        go_simp
        with_reducible rfl
      rotate_left
      · simp only [Act.put, List.setIfInBounds_toArray, List.set_cons_zero, List.set_cons_succ, i64_w, i32_w]
        rfl
      refine pure_ (i := 7) (N := some 44) (v := ?_) (a' := ?_) #[true, true, false, true, true, false, true, true, false, false, false, false, false, false, false, false, false, false, false, false, false, false, false, false, false, false] rfl rfl (by kernel_rfl) (fun _ _ _ h => h) (Or.inl ⟨by rfl, ?_⟩) ?_ ?_
      rotate_left
      · intro w'
        go_simp
        with_reducible rfl
      rotate_left
      · simp only [Act.put, List.setIfInBounds_toArray, List.set_cons_zero, List.set_cons_succ, i64_w, i32_w]
        rfl
      refine pure_ (i := 11) (N := some 48) (v := ?_) (a' := ?_) #[true, true, false, true, true, false, true, true, false, false, false, true, false, false, false, false, false, false, false, false, false, false, false, false, false, false] rfl rfl (by kernel_rfl) (fun _ _ _ h => h) (Or.inl ⟨by rfl, ?_⟩) ?_ ?_
      rotate_left
      · intro w'
        go_simp
        with_reducible rfl
      rotate_left
      · simp only [Act.put, List.setIfInBounds_toArray, List.set_cons_zero, List.set_cons_succ, i64_w, i32_w]
        rfl
      refine pure_ (i := 14) (N := some 51) (v := ?_) (a' := ?_) #[true, true, false, true, true, false, true, true, false, false, false, true, false, false, true, false, false, false, false, false, false, false, false, false, false, false] rfl rfl (by kernel_rfl) (fun _ _ _ h => h) (Or.inl ⟨by rfl, ?_⟩) ?_ ?_
      rotate_left
      · intro w'
        go_simp
        with_reducible rfl
      rotate_left
      · simp only [Act.put, List.setIfInBounds_toArray, List.set_cons_zero, List.set_cons_succ, i64_w, i32_w]
        rfl
      refine pure_ (i := 15) (N := some 52) (v := ?_) (a' := ?_) #[true, true, false, true, true, false, true, true, false, false, false, true, false, false, true, true, false, false, false, false, false, false, false, false, false, false] rfl rfl (by kernel_rfl) (fun _ _ _ h => h) (Or.inl ⟨by rfl, ?_⟩) ?_ ?_
      rotate_left
      · intro w'
        go_simp
        with_reducible rfl
      rotate_left
      · simp only [Act.put, List.setIfInBounds_toArray, List.set_cons_zero, List.set_cons_succ, i64_w, i32_w]
        rfl
      refine pure_ (i := 19) (N := some 56) (v := ?_) (a' := ?_) #[true, true, false, true, true, false, true, true, false, false, false, true, false, false, true, true, false, false, false, true, false, false, false, false, false, false] rfl rfl (by kernel_rfl) (fun _ _ _ h => h) (Or.inl ⟨by rfl, ?_⟩) ?_ ?_
      rotate_left
      · intro w'
        go_simp
        with_reducible rfl
      rotate_left
      · simp only [Act.put, List.setIfInBounds_toArray, List.set_cons_zero, List.set_cons_succ, i64_w, i32_w]
        rfl
      refine take_ (i := 2) (N := some 39) (v := ?_) (a' := ?_) #[true, true, true, true, true, false, true, true, false, false, false, true, false, false, true, true, false, false, false, true, false, false, false, false, false, false] rfl rfl (by kernel_rfl) (fun _ _ _ h => h) (Or.inl ⟨by rfl, ?_⟩) hHeld ?_ ?_
      rotate_left
      · rintro w' ⟨s0, s1, s2, s3⟩
        go_simp
        with_reducible rfl
      rotate_left
      · simp only [Act.put, List.setIfInBounds_toArray, List.set_cons_zero, List.set_cons_succ, i64_w, i32_w]
        rfl
      refine take_ (i := 5) (N := some 42) (v := ?_) (a' := ?_) #[true, true, true, true, true, true, true, true, false, false, false, true, false, false, true, true, false, false, false, true, false, false, false, false, false, false] rfl rfl (by kernel_rfl) (fun _ _ _ h => h) (Or.inl ⟨by rfl, ?_⟩) hHeld ?_ ?_
      rotate_left
      · rintro w' ⟨s0, s1, s2, s3⟩
        go_simp
        with_reducible rfl
      rotate_left
      · simp only [Act.put, List.setIfInBounds_toArray, List.set_cons_zero, List.set_cons_succ, i64_w, i32_w]
        rfl
      refine take_ (i := 8) (N := some 45) (v := ?_) (a' := ?_) #[true, true, true, true, true, true, true, true, true, false, false, true, false, false, true, true, false, false, false, true, false, false, false, false, false, false] rfl rfl (by kernel_rfl) (fun _ _ _ h => h) (Or.inl ⟨by rfl, ?_⟩) hHeld ?_ ?_
      rotate_left
      · rintro w' ⟨s0, s1, s2, s3⟩
        go_simp
        with_reducible rfl
      rotate_left
      · simp only [Act.put, List.setIfInBounds_toArray, List.set_cons_zero, List.set_cons_succ, i64_w, i32_w]
        rfl
      refine pure_ (i := 9) (N := some 46) (v := ?_) (a' := ?_) #[true, true, true, true, true, true, true, true, true, true, false, true, false, false, true, true, false, false, false, true, false, false, false, false, false, false] rfl rfl (by kernel_rfl) (fun _ _ _ h => h) (Or.inl ⟨by rfl, ?_⟩) ?_ ?_
      rotate_left
      · intro w'
        go_simp
        with_reducible rfl
      rotate_left
      · simp only [Act.put, List.setIfInBounds_toArray, List.set_cons_zero, List.set_cons_succ, i64_w, i32_w]
        rfl
      refine take_ (i := 12) (N := some 49) (v := ?_) (a' := ?_) #[true, true, true, true, true, true, true, true, true, true, false, true, true, false, true, true, false, false, false, true, false, false, false, false, false, false] rfl rfl (by kernel_rfl) (fun _ _ _ h => h) (Or.inl ⟨by rfl, ?_⟩) hHeld ?_ ?_
      rotate_left
      · rintro w' ⟨s0, s1, s2, s3⟩
        go_simp
        with_reducible rfl
      rotate_left
      · simp only [Act.put, List.setIfInBounds_toArray, List.set_cons_zero, List.set_cons_succ, i64_w, i32_w]
        rfl
      refine take_ (i := 16) (N := some 53) (v := ?_) (a' := ?_) #[true, true, true, true, true, true, true, true, true, true, false, true, true, false, true, true, true, false, false, true, false, false, false, false, false, false] rfl rfl (by kernel_rfl) (fun _ _ _ h => h) (Or.inl ⟨by rfl, ?_⟩) hHeld ?_ ?_
      rotate_left
      · rintro w' ⟨s0, s1, s2, s3⟩
        go_simp
        with_reducible rfl
      rotate_left
      · simp only [Act.put, List.setIfInBounds_toArray, List.set_cons_zero, List.set_cons_succ, i64_w, i32_w]
        rfl
      refine pure_ (i := 17) (N := some 54) (v := ?_) (a' := ?_) #[true, true, true, true, true, true, true, true, true, true, false, true, true, false, true, true, true, true, false, true, false, false, false, false, false, false] rfl rfl (by kernel_rfl) (fun _ _ _ h => h) (Or.inl ⟨by rfl, ?_⟩) ?_ ?_
      rotate_left
      · intro w'
        go_simp
        with_reducible rfl
      rotate_left
      · simp only [Act.put, List.setIfInBounds_toArray, List.set_cons_zero, List.set_cons_succ, i64_w, i32_w]
        rfl
      refine take_ (i := 20) (N := some 57) (v := ?_) (a' := ?_) #[true, true, true, true, true, true, true, true, true, true, false, true, true, false, true, true, true, true, false, true, true, false, false, false, false, false] rfl rfl (by kernel_rfl) (fun _ _ _ h => h) (Or.inl ⟨by rfl, ?_⟩) hHeld ?_ ?_
      rotate_left
      · rintro w' ⟨s0, s1, s2, s3⟩
        go_simp
        with_reducible rfl
      rotate_left
      · simp only [Act.put, List.setIfInBounds_toArray, List.set_cons_zero, List.set_cons_succ, i64_w, i32_w]
        rfl
      refine join_ (σ := Unit) 4 #[true, true, true, true, true, true, true, true, true, true, true, true, true, true, true, true, true, true, true, true, true, true, false, false, false, false] (fun _ => [(47, .int .i64 0), (55, .int .i64 0), (50, .int .i64 5), (58, .int .i64 9)]) (fun _ w' => w18 = w') ?_ ?_
      rotate_left
      · intro hCont
        refine two_ (i := 10) (j := 18) (Ni := some 47) (Nj := some 55) #[true, true, true, true, true, true, true, true, true, true, true, true, true, false, true, true, true, true, false, true, true, false, false, false, false, false] #[true, true, true, true, true, true, true, true, true, true, false, true, true, false, true, true, true, true, true, true, true, false, false, false, false, false] rfl rfl rfl rfl (by kernel_rfl) (by decide) (by decide) (fun K hK => ?_) (fun K hK => ?_)
        · skip
          refine value_ (w1 := ?_) (v := ?_) (by rfl) rfl ?_ ?_
          rotate_left 2
          · go_simp
            constructor
            · rfl
            · rfl
          refine hK.out _ _ ⟨(blk_cell QC8.out 0).trans rfl, (blk_cell QC8.out 1).trans rfl, (blk_cell QC8.out 2).trans rfl, (blk_cell QC8.out 3).trans rfl⟩ (fun hHeld => ?_)
          clear hK K
          refine norm_ (a' := ?_) ?_ ?_
          rotate_left
          · show Act.put _ (some 47) _ = _
            simp only [Act.put, List.setIfInBounds_toArray, List.set_cons_zero, List.set_cons_succ, i64_w, i32_w]
            rfl
          refine pure_ (i := 13) (N := some 50) (v := ?_) (a' := ?_) #[true, true, true, true, true, true, true, true, true, true, true, true, true, true, true, true, true, true, false, true, true, false, false, false, false, false] rfl rfl (by kernel_rfl) (fun _ _ _ h => h) (Or.inl ⟨by rfl, ?_⟩) ?_ ?_
          rotate_left
          · intro w'
            go_simp
            with_reducible rfl
          rotate_left
          · simp only [Act.put, List.setIfInBounds_toArray, List.set_cons_zero, List.set_cons_succ, i64_w, i32_w]
            rfl
          refine one_ (i := 18) (N := some 55) #[true, true, true, true, true, true, true, true, true, true, true, true, true, true, true, true, true, true, true, true, true, false, false, false, false, false] rfl rfl (by kernel_rfl) (by decide) (fun K hK => ?_)
          refine value_ (w1 := ?_) (v := ?_) (by rfl) rfl ?_ ?_
          rotate_left 2
          · go_simp
            constructor
            · rfl
            · rfl
          refine hK.out _ _ ⟨(blk_cell QC8.out 0).trans rfl, (blk_cell QC8.out 1).trans rfl, (blk_cell QC8.out 2).trans rfl, (blk_cell QC8.out 3).trans rfl⟩ (fun hHeld => ?_)
          clear hK K
          refine norm_ (a' := ?_) ?_ ?_
          rotate_left
          · show Act.put _ (some 55) _ = _
            simp only [Act.put, List.setIfInBounds_toArray, List.set_cons_zero, List.set_cons_succ, i64_w, i32_w]
            rfl
          refine pure_ (i := 21) (N := some 58) (v := ?_) (a' := ?_) #[true, true, true, true, true, true, true, true, true, true, true, true, true, true, true, true, true, true, true, true, true, true, false, false, false, false] rfl rfl (by kernel_rfl) (fun _ _ _ h => h) (Or.inl ⟨by rfl, ?_⟩) ?_ ?_
          rotate_left
          · intro w'
            go_simp
            with_reducible rfl
          rotate_left
          · simp only [Act.put, List.setIfInBounds_toArray, List.set_cons_zero, List.set_cons_succ, i64_w, i32_w]
            rfl
          exact norm_ (by simp only [putAll, Act.put, List.setIfInBounds_toArray, List.set_cons_zero, List.set_cons_succ]) (hCont () _ rfl)
        · skip
          refine value_ (w1 := ?_) (v := ?_) (by rfl) rfl ?_ ?_
          rotate_left 2
          · go_simp
            constructor
            · rfl
            · rfl
          refine hK.out _ _ ⟨(blk_cell QC8.out 0).trans rfl, (blk_cell QC8.out 1).trans rfl, (blk_cell QC8.out 2).trans rfl, (blk_cell QC8.out 3).trans rfl⟩ (fun hHeld => ?_)
          clear hK K
          refine norm_ (a' := ?_) ?_ ?_
          rotate_left
          · show Act.put _ (some 55) _ = _
            simp only [Act.put, List.setIfInBounds_toArray, List.set_cons_zero, List.set_cons_succ, i64_w, i32_w]
            rfl
          refine pure_ (i := 21) (N := some 58) (v := ?_) (a' := ?_) #[true, true, true, true, true, true, true, true, true, true, false, true, true, false, true, true, true, true, true, true, true, true, false, false, false, false] rfl rfl (by kernel_rfl) (fun _ _ _ h => h) (Or.inl ⟨by rfl, ?_⟩) ?_ ?_
          rotate_left
          · intro w'
            go_simp
            with_reducible rfl
          rotate_left
          · simp only [Act.put, List.setIfInBounds_toArray, List.set_cons_zero, List.set_cons_succ, i64_w, i32_w]
            rfl
          refine one_ (i := 10) (N := some 47) #[true, true, true, true, true, true, true, true, true, true, true, true, true, false, true, true, true, true, true, true, true, true, false, false, false, false] rfl rfl (by kernel_rfl) (by decide) (fun K hK => ?_)
          refine value_ (w1 := ?_) (v := ?_) (by rfl) rfl ?_ ?_
          rotate_left 2
          · go_simp
            constructor
            · rfl
            · rfl
          refine hK.out _ _ ⟨(blk_cell QC8.out 0).trans rfl, (blk_cell QC8.out 1).trans rfl, (blk_cell QC8.out 2).trans rfl, (blk_cell QC8.out 3).trans rfl⟩ (fun hHeld => ?_)
          clear hK K
          refine norm_ (a' := ?_) ?_ ?_
          rotate_left
          · show Act.put _ (some 47) _ = _
            simp only [Act.put, List.setIfInBounds_toArray, List.set_cons_zero, List.set_cons_succ, i64_w, i32_w]
            rfl
          refine pure_ (i := 13) (N := some 50) (v := ?_) (a' := ?_) #[true, true, true, true, true, true, true, true, true, true, true, true, true, true, true, true, true, true, true, true, true, true, false, false, false, false] rfl rfl (by kernel_rfl) (fun _ _ _ h => h) (Or.inl ⟨by rfl, ?_⟩) ?_ ?_
          rotate_left
          · intro w'
            go_simp
            with_reducible rfl
          rotate_left
          · simp only [Act.put, List.setIfInBounds_toArray, List.set_cons_zero, List.set_cons_succ, i64_w, i32_w]
            rfl
          exact norm_ (by simp only [putAll, Act.put, List.setIfInBounds_toArray, List.set_cons_zero, List.set_cons_succ]) (hCont () _ rfl)
      rintro ⟨⟩ w' rfl
      have hHeld : w18.cell? ⟨gc, 0, none⟩ = some (.int .i64 5) ∧ w18.cell? ⟨gc, 1, none⟩ = some (.int .i64 9) ∧ w18.cell? ⟨gc, 2, none⟩ = some (.int .i64 0) ∧ w18.cell? ⟨gc, 3, none⟩ = some (.int .i64 1) := ⟨(blk_cell QC8.out 0).trans rfl, (blk_cell QC8.out 1).trans rfl, (blk_cell QC8.out 2).trans rfl, (blk_cell QC8.out 3).trans rfl⟩
      refine norm_ (a' := ?_) ?_ ?_
      rotate_left
      · simp only [putAll, Act.put, List.setIfInBounds_toArray, List.set_cons_zero, List.set_cons_succ]
        rfl
      refine pure_ (i := 22) (N := some 59) (v := ?_) (a' := ?_) #[true, true, true, true, true, true, true, true, true, true, true, true, true, true, true, true, true, true, true, true, true, true, true, false, false, false] rfl rfl (by kernel_rfl) (fun _ _ _ h => h) (Or.inl ⟨by rfl, ?_⟩) ?_ ?_
      rotate_left
      · intro w'
        go_simp
        with_reducible rfl
      rotate_left
      · simp only [Act.put, List.setIfInBounds_toArray, List.set_cons_zero, List.set_cons_succ, i64_w, i32_w]
        rfl
      refine one_ (i := 23) (N := none) #[true, true, true, true, true, true, true, true, true, true, true, true, true, true, true, true, true, true, true, true, true, true, true, true, false, false] rfl rfl (by kernel_rfl) (by decide) (fun K hK => ?_)
      refine skip_ (w1 := ?_) (by rfl) rfl ?_ ?_
      rotate_left
      · go_simp
        rfl
      refine hK.out _ _ ⟨(blk_cell (blk_far QC8.out Ncl (.int .i64 5)) 0).trans rfl, (blk_cell (blk_far QC8.out Ncl (.int .i64 5)) 1).trans rfl, (blk_cell (blk_far QC8.out Ncl (.int .i64 5)) 2).trans rfl, (blk_cell (blk_far QC8.out Ncl (.int .i64 5)) 3).trans rfl⟩ (fun hHeld => ?_)
      clear hK K
      refine pure_ (i := 24) (N := some 60) (v := ?_) (a' := ?_) #[true, true, true, true, true, true, true, true, true, true, true, true, true, true, true, true, true, true, true, true, true, true, true, true, true, false] rfl rfl (by kernel_rfl) (fun _ _ _ h => h) (Or.inl ⟨by rfl, ?_⟩) ?_ ?_
      rotate_left
      · intro w'
        go_simp
        with_reducible rfl
      rotate_left
      · simp only [Act.put, List.setIfInBounds_toArray, List.set_cons_zero, List.set_cons_succ, i64_w, i32_w]
        rfl
      refine one_ (i := 25) (N := none) #[true, true, true, true, true, true, true, true, true, true, true, true, true, true, true, true, true, true, true, true, true, true, true, true, true, true] rfl rfl (by kernel_rfl) (by decide) (fun K hK => ?_)
      refine skip_ (w1 := ?_) (by rfl) rfl ?_ ?_
      rotate_left
      · go_simp
        rfl
      refine hK.out _ _ ⟨(blk_cell (blk_far (blk_far QC8.out Ncl (.int .i64 5)) Ncm (.int .i64 9)) 0).trans rfl, (blk_cell (blk_far (blk_far QC8.out Ncl (.int .i64 5)) Ncm (.int .i64 9)) 1).trans rfl, (blk_cell (blk_far (blk_far QC8.out Ncl (.int .i64 5)) Ncm (.int .i64 9)) 2).trans rfl, (blk_cell (blk_far (blk_far QC8.out Ncl (.int .i64 5)) Ncm (.int .i64 9)) 3).trans rfl⟩ (fun hHeld => ?_)
      clear hK K
      refine done_ (by kernel_rfl) ?_
      have Nal : ga ≠ gl := fun e => Nla e.symm
      have Nam : ga ≠ gm := fun e => Nma e.symm
      clear hHeld cl cm fl fm
      go_wp2
      go_roundw
      case rel => exact ⟨1, 5, 0, 9, 0, by rfl, Or.inr (Or.inl ⟨rfl, rfl, rfl, rfl, rfl⟩), ⟨blk_far (blk_put QL8.out 0 (.int .i64 5) (by simp [duo])) Nlm _⟩, ⟨blk_put (blk_far QM8.out Nml _) 0 (.int .i64 9) (by simp [duo])⟩, ⟨blk_far (blk_far QA8.out Nal _) Nam _⟩, ⟨(QB8.out.setCell WL.out _).setCell WM.out _⟩⟩
      case measure => simp [intOf]
    · have a0 : wr.cell? ⟨ga, 4, none⟩ = some (.int .i64 2) := (blk_cell HAr.out 4).trans rfl; have a1 : wr.cell? ⟨ga, 5, none⟩ = some (.int .i64 3) := (blk_cell HAr.out 5).trans rfl; have a2 : wr.cell? ⟨ga, 6, none⟩ = some (.int .i64 1) := (blk_cell HAr.out 6).trans rfl; have a3 : wr.cell? ⟨ga, 7, none⟩ = some (.int .i64 1) := (blk_cell HAr.out 7).trans rfl
      go_wp2_with ((with_reducible refine gate_dst (N := 9) rfl ?_); refine box_event rfl (N := 9) rfl (cs := #[.int .i64 0, .int .i64 0, .int .i64 0, .int .i64 0]) (t := 116) (by first | (go_simp; done) | (go_simp; rfl)) ?_; intro gc hg_ w16 hbx hb; have KC := Aside0.mk hbx; have KL := Aside0.mk (blk_below HLr.out hb); have KM := Aside0.mk (blk_below HMr.out hb); have KA := Aside0.mk (blk_below HAr.out hb); have KB := Aside0.mk (below_step HBr.out hb); have WC : Aside0 (w.heap.size ≤ gc) := ⟨by have h1 := HBr.out.size; omega⟩; have Nlc : gl ≠ gc := (by have h1 := blk_lt HLr.out; omega); have Nmc : gm ≠ gc := (by have h1 := blk_lt HMr.out; omega); have Nac : ga ≠ gc := (by have h1 := blk_lt HAr.out; omega); clear hg_ hb; have z0 : w16.cell? ⟨gc, 0, none⟩ = some (.int .i64 0) := (blk_cell hbx 0).trans rfl; have y0 := blk_frozen hbx 0; have z1 : w16.cell? ⟨gc, 1, none⟩ = some (.int .i64 0) := (blk_cell hbx 1).trans rfl; have y1 := blk_frozen hbx 1; have z2 : w16.cell? ⟨gc, 2, none⟩ = some (.int .i64 0) := (blk_cell hbx 2).trans rfl; have y2 := blk_frozen hbx 2; have z3 : w16.cell? ⟨gc, 3, none⟩ = some (.int .i64 0) := (blk_cell hbx 3).trans rfl; have y3 := blk_frozen hbx 3; clear hbx)
      have QL : Aside0 (((((w16.setCell ⟨gc, 0, none⟩ (.int .i64 2)).setCell ⟨gc, 1, none⟩ (.int .i64 3)).setCell ⟨gc, 2, none⟩ (.int .i64 1)).setCell ⟨gc, 3, none⟩ (.int .i64 1)).heap[gl]? = _) := ⟨blk_far (blk_far (blk_far (blk_far KL.out Nlc _) Nlc _) Nlc _) Nlc _⟩
      have QM : Aside0 (((((w16.setCell ⟨gc, 0, none⟩ (.int .i64 2)).setCell ⟨gc, 1, none⟩ (.int .i64 3)).setCell ⟨gc, 2, none⟩ (.int .i64 1)).setCell ⟨gc, 3, none⟩ (.int .i64 1)).heap[gm]? = _) := ⟨blk_far (blk_far (blk_far (blk_far KM.out Nmc _) Nmc _) Nmc _) Nmc _⟩
      have QA : Aside0 (((((w16.setCell ⟨gc, 0, none⟩ (.int .i64 2)).setCell ⟨gc, 1, none⟩ (.int .i64 3)).setCell ⟨gc, 2, none⟩ (.int .i64 1)).setCell ⟨gc, 3, none⟩ (.int .i64 1)).heap[ga]? = _) := ⟨blk_far (blk_far (blk_far (blk_far KA.out Nac _) Nac _) Nac _) Nac _⟩
      have QC : Aside0 (((((w16.setCell ⟨gc, 0, none⟩ (.int .i64 2)).setCell ⟨gc, 1, none⟩ (.int .i64 3)).setCell ⟨gc, 2, none⟩ (.int .i64 1)).setCell ⟨gc, 3, none⟩ (.int .i64 1)).heap[gc]? = some (.cells #[.int .i64 2, .int .i64 3, .int .i64 1, .int .i64 1] 116 (0, 0))) := ⟨blk_put (blk_put (blk_put (blk_put KC.out 0 (.int .i64 2) rfl) 1 (.int .i64 3) rfl) 2 (.int .i64 1) rfl) 3 (.int .i64 1) rfl⟩
      have QB : Aside0 (Below w.heap.size w ((((w16.setCell ⟨gc, 0, none⟩ (.int .i64 2)).setCell ⟨gc, 1, none⟩ (.int .i64 3)).setCell ⟨gc, 2, none⟩ (.int .i64 1)).setCell ⟨gc, 3, none⟩ (.int .i64 1))) := ⟨(((KB.out.setCell WC.out _).setCell WC.out _).setCell WC.out _).setCell WC.out _⟩
      clear KL KM KA KC KB z0 y0 a0 z1 y1 a1 z2 y2 a2 z3 y3 a3
      generalize ((((w16.setCell ⟨gc, 0, none⟩ (.int .i64 2)).setCell ⟨gc, 1, none⟩ (.int .i64 3)).setCell ⟨gc, 2, none⟩ (.int .i64 1)).setCell ⟨gc, 3, none⟩ (.int .i64 1)) = w17 at QL QM QA QC QB ⊢
      have c0 : w17.cell? ⟨gc, 0, none⟩ = some (.int .i64 2) := (blk_cell QC.out 0).trans rfl
      have c1 : w17.cell? ⟨gc, 1, none⟩ = some (.int .i64 3) := (blk_cell QC.out 1).trans rfl
      have c2 : w17.cell? ⟨gc, 2, none⟩ = some (.int .i64 1) := (blk_cell QC.out 2).trans rfl
      have c3 : w17.cell? ⟨gc, 3, none⟩ = some (.int .i64 1) := (blk_cell QC.out 3).trans rfl
      have cl : w17.cell? ⟨gl, 1, none⟩ = some (.int .i64 0) := (blk_cell QL.out 1).trans rfl
      have cm : w17.cell? ⟨gm, 1, none⟩ = some (.int .i64 0) := (blk_cell QM.out 1).trans rfl
      have fl := blk_frozen QL.out 1
      have fm := blk_frozen QM.out 1
      go_wp2_with fail
      have Ncl : gc ≠ gl := fun e => Nlc e.symm
      have Ncm : gc ≠ gm := fun e => Nmc e.symm
      have Nml : gm ≠ gl := fun e => Nlm e.symm
      refine start_ (n := 26) (S := fun w' => w'.cell? ⟨gc, 0, none⟩ = some (.int .i64 2) ∧ w'.cell? ⟨gc, 1, none⟩ = some (.int .i64 3) ∧ w'.cell? ⟨gc, 2, none⟩ = some (.int .i64 1) ∧ w'.cell? ⟨gc, 3, none⟩ = some (.int .i64 1)) (ds := []) #[false, false, false, false, false, false, false, false, false, false, false, false, false, false, false, false, false, false, false, false, false, false, false, false, false, false] (by kernel_rfl) rfl rfl ⟨(blk_cell (show w17.drew.heap[gc]? = _ from QC.out) 0).trans rfl, (blk_cell (show w17.drew.heap[gc]? = _ from QC.out) 1).trans rfl, (blk_cell (show w17.drew.heap[gc]? = _ from QC.out) 2).trans rfl, (blk_cell (show w17.drew.heap[gc]? = _ from QC.out) 3).trans rfl⟩ (fun hHeld => ?_)
      have QL8 : Aside0 (w17.drew.heap[gl]? = _) := ⟨QL.out⟩
      have QM8 : Aside0 (w17.drew.heap[gm]? = _) := ⟨QM.out⟩
      have QA8 : Aside0 (w17.drew.heap[ga]? = _) := ⟨QA.out⟩
      have QC8 : Aside0 (w17.drew.heap[gc]? = _) := ⟨QC.out⟩
      have QB8 := Aside0.mk (below_drew1 QB.out)
      clear QL QM QA QC QB c0 c1 c2 c3 cl cm fl fm
      generalize w17.drew = w18 at QL8 QM8 QA8 QC8 QB8 hHeld ⊢
      have cl : w18.cell? ⟨gl, 1, none⟩ = some (.int .i64 0) := (blk_cell QL8.out 1).trans rfl
      have cm : w18.cell? ⟨gm, 1, none⟩ = some (.int .i64 0) := (blk_cell QM8.out 1).trans rfl
      have fl := blk_frozen QL8.out 1
      have fm := blk_frozen QM8.out 1
      refine pure_ (i := 0) (N := some 37) (v := ?_) (a' := ?_) #[true, false, false, false, false, false, false, false, false, false, false, false, false, false, false, false, false, false, false, false, false, false, false, false, false, false] rfl rfl (by kernel_rfl) (fun _ _ _ h => h) (Or.inl ⟨by rfl, ?_⟩) ?_ ?_
      rotate_left
      · intro w'
        go_simp
        with_reducible rfl
      rotate_left
      · simp only [Act.put, List.setIfInBounds_toArray, List.set_cons_zero, List.set_cons_succ, i64_w, i32_w]
        rfl
      refine pure_ (i := 1) (N := some 38) (v := ?_) (a' := ?_) #[true, true, false, false, false, false, false, false, false, false, false, false, false, false, false, false, false, false, false, false, false, false, false, false, false, false] rfl rfl (by kernel_rfl) (fun _ _ _ h => h) (Or.inl ⟨by rfl, ?_⟩) ?_ ?_
      rotate_left
      · intro w'
        go_simp
        with_reducible rfl
      rotate_left
      · simp only [Act.put, List.setIfInBounds_toArray, List.set_cons_zero, List.set_cons_succ, i64_w, i32_w]
        rfl
      refine pure_ (i := 3) (N := some 40) (v := ?_) (a' := ?_) #[true, true, false, true, false, false, false, false, false, false, false, false, false, false, false, false, false, false, false, false, false, false, false, false, false, false] rfl rfl (by kernel_rfl) (fun _ _ _ h => h) (Or.inl ⟨by rfl, ?_⟩) ?_ ?_
      rotate_left
      · intro w'
        go_simp
        with_reducible rfl
      rotate_left
      · simp only [Act.put, List.setIfInBounds_toArray, List.set_cons_zero, List.set_cons_succ, i64_w, i32_w]
        rfl
      refine pure_ (i := 4) (N := some 41) (v := ?_) (a' := ?_) #[true, true, false, true, true, false, false, false, false, false, false, false, false, false, false, false, false, false, false, false, false, false, false, false, false, false] rfl rfl (by kernel_rfl) (fun _ _ _ h => h) (Or.inl ⟨by rfl, ?_⟩) ?_ ?_
      rotate_left
      · intro w'
        go_simp
        with_reducible rfl
      rotate_left
      · simp only [Act.put, List.setIfInBounds_toArray, List.set_cons_zero, List.set_cons_succ, i64_w, i32_w]
        rfl
      refine pure_ (i := 6) (N := some 43) (v := ?_) (a' := ?_) #[true, true, false, true, true, false, true, false, false, false, false, false, false, false, false, false, false, false, false, false, false, false, false, false, false, false] rfl rfl (by kernel_rfl) (fun _ _ _ h => h) (Or.inl ⟨by rfl, ?_⟩) ?_ ?_
      rotate_left
      · intro w'
        go_simp
        with_reducible rfl
      rotate_left
      · simp only [Act.put, List.setIfInBounds_toArray, List.set_cons_zero, List.set_cons_succ, i64_w, i32_w]
        rfl
      refine pure_ (i := 7) (N := some 44) (v := ?_) (a' := ?_) #[true, true, false, true, true, false, true, true, false, false, false, false, false, false, false, false, false, false, false, false, false, false, false, false, false, false] rfl rfl (by kernel_rfl) (fun _ _ _ h => h) (Or.inl ⟨by rfl, ?_⟩) ?_ ?_
      rotate_left
      · intro w'
        go_simp
        with_reducible rfl
      rotate_left
      · simp only [Act.put, List.setIfInBounds_toArray, List.set_cons_zero, List.set_cons_succ, i64_w, i32_w]
        rfl
      refine pure_ (i := 11) (N := some 48) (v := ?_) (a' := ?_) #[true, true, false, true, true, false, true, true, false, false, false, true, false, false, false, false, false, false, false, false, false, false, false, false, false, false] rfl rfl (by kernel_rfl) (fun _ _ _ h => h) (Or.inl ⟨by rfl, ?_⟩) ?_ ?_
      rotate_left
      · intro w'
        go_simp
        with_reducible rfl
      rotate_left
      · simp only [Act.put, List.setIfInBounds_toArray, List.set_cons_zero, List.set_cons_succ, i64_w, i32_w]
        rfl
      refine pure_ (i := 14) (N := some 51) (v := ?_) (a' := ?_) #[true, true, false, true, true, false, true, true, false, false, false, true, false, false, true, false, false, false, false, false, false, false, false, false, false, false] rfl rfl (by kernel_rfl) (fun _ _ _ h => h) (Or.inl ⟨by rfl, ?_⟩) ?_ ?_
      rotate_left
      · intro w'
        go_simp
        with_reducible rfl
      rotate_left
      · simp only [Act.put, List.setIfInBounds_toArray, List.set_cons_zero, List.set_cons_succ, i64_w, i32_w]
        rfl
      refine pure_ (i := 15) (N := some 52) (v := ?_) (a' := ?_) #[true, true, false, true, true, false, true, true, false, false, false, true, false, false, true, true, false, false, false, false, false, false, false, false, false, false] rfl rfl (by kernel_rfl) (fun _ _ _ h => h) (Or.inl ⟨by rfl, ?_⟩) ?_ ?_
      rotate_left
      · intro w'
        go_simp
        with_reducible rfl
      rotate_left
      · simp only [Act.put, List.setIfInBounds_toArray, List.set_cons_zero, List.set_cons_succ, i64_w, i32_w]
        rfl
      refine pure_ (i := 19) (N := some 56) (v := ?_) (a' := ?_) #[true, true, false, true, true, false, true, true, false, false, false, true, false, false, true, true, false, false, false, true, false, false, false, false, false, false] rfl rfl (by kernel_rfl) (fun _ _ _ h => h) (Or.inl ⟨by rfl, ?_⟩) ?_ ?_
      rotate_left
      · intro w'
        go_simp
        with_reducible rfl
      rotate_left
      · simp only [Act.put, List.setIfInBounds_toArray, List.set_cons_zero, List.set_cons_succ, i64_w, i32_w]
        rfl
      refine take_ (i := 2) (N := some 39) (v := ?_) (a' := ?_) #[true, true, true, true, true, false, true, true, false, false, false, true, false, false, true, true, false, false, false, true, false, false, false, false, false, false] rfl rfl (by kernel_rfl) (fun _ _ _ h => h) (Or.inl ⟨by rfl, ?_⟩) hHeld ?_ ?_
      rotate_left
      · rintro w' ⟨s0, s1, s2, s3⟩
        go_simp
        with_reducible rfl
      rotate_left
      · simp only [Act.put, List.setIfInBounds_toArray, List.set_cons_zero, List.set_cons_succ, i64_w, i32_w]
        rfl
      refine take_ (i := 5) (N := some 42) (v := ?_) (a' := ?_) #[true, true, true, true, true, true, true, true, false, false, false, true, false, false, true, true, false, false, false, true, false, false, false, false, false, false] rfl rfl (by kernel_rfl) (fun _ _ _ h => h) (Or.inl ⟨by rfl, ?_⟩) hHeld ?_ ?_
      rotate_left
      · rintro w' ⟨s0, s1, s2, s3⟩
        go_simp
        with_reducible rfl
      rotate_left
      · simp only [Act.put, List.setIfInBounds_toArray, List.set_cons_zero, List.set_cons_succ, i64_w, i32_w]
        rfl
      refine take_ (i := 8) (N := some 45) (v := ?_) (a' := ?_) #[true, true, true, true, true, true, true, true, true, false, false, true, false, false, true, true, false, false, false, true, false, false, false, false, false, false] rfl rfl (by kernel_rfl) (fun _ _ _ h => h) (Or.inl ⟨by rfl, ?_⟩) hHeld ?_ ?_
      rotate_left
      · rintro w' ⟨s0, s1, s2, s3⟩
        go_simp
        with_reducible rfl
      rotate_left
      · simp only [Act.put, List.setIfInBounds_toArray, List.set_cons_zero, List.set_cons_succ, i64_w, i32_w]
        rfl
      refine pure_ (i := 9) (N := some 46) (v := ?_) (a' := ?_) #[true, true, true, true, true, true, true, true, true, true, false, true, false, false, true, true, false, false, false, true, false, false, false, false, false, false] rfl rfl (by kernel_rfl) (fun _ _ _ h => h) (Or.inl ⟨by rfl, ?_⟩) ?_ ?_
      rotate_left
      · intro w'
        go_simp
        with_reducible rfl
      rotate_left
      · simp only [Act.put, List.setIfInBounds_toArray, List.set_cons_zero, List.set_cons_succ, i64_w, i32_w]
        rfl
      refine take_ (i := 12) (N := some 49) (v := ?_) (a' := ?_) #[true, true, true, true, true, true, true, true, true, true, false, true, true, false, true, true, false, false, false, true, false, false, false, false, false, false] rfl rfl (by kernel_rfl) (fun _ _ _ h => h) (Or.inl ⟨by rfl, ?_⟩) hHeld ?_ ?_
      rotate_left
      · rintro w' ⟨s0, s1, s2, s3⟩
        go_simp
        with_reducible rfl
      rotate_left
      · simp only [Act.put, List.setIfInBounds_toArray, List.set_cons_zero, List.set_cons_succ, i64_w, i32_w]
        rfl
      refine take_ (i := 16) (N := some 53) (v := ?_) (a' := ?_) #[true, true, true, true, true, true, true, true, true, true, false, true, true, false, true, true, true, false, false, true, false, false, false, false, false, false] rfl rfl (by kernel_rfl) (fun _ _ _ h => h) (Or.inl ⟨by rfl, ?_⟩) hHeld ?_ ?_
      rotate_left
      · rintro w' ⟨s0, s1, s2, s3⟩
        go_simp
        with_reducible rfl
      rotate_left
      · simp only [Act.put, List.setIfInBounds_toArray, List.set_cons_zero, List.set_cons_succ, i64_w, i32_w]
        rfl
      refine pure_ (i := 17) (N := some 54) (v := ?_) (a' := ?_) #[true, true, true, true, true, true, true, true, true, true, false, true, true, false, true, true, true, true, false, true, false, false, false, false, false, false] rfl rfl (by kernel_rfl) (fun _ _ _ h => h) (Or.inl ⟨by rfl, ?_⟩) ?_ ?_
      rotate_left
      · intro w'
        go_simp
        with_reducible rfl
      rotate_left
      · simp only [Act.put, List.setIfInBounds_toArray, List.set_cons_zero, List.set_cons_succ, i64_w, i32_w]
        rfl
      refine take_ (i := 20) (N := some 57) (v := ?_) (a' := ?_) #[true, true, true, true, true, true, true, true, true, true, false, true, true, false, true, true, true, true, false, true, true, false, false, false, false, false] rfl rfl (by kernel_rfl) (fun _ _ _ h => h) (Or.inl ⟨by rfl, ?_⟩) hHeld ?_ ?_
      rotate_left
      · rintro w' ⟨s0, s1, s2, s3⟩
        go_simp
        with_reducible rfl
      rotate_left
      · simp only [Act.put, List.setIfInBounds_toArray, List.set_cons_zero, List.set_cons_succ, i64_w, i32_w]
        rfl
      refine join_ (σ := Unit) 4 #[true, true, true, true, true, true, true, true, true, true, true, true, true, true, true, true, true, true, true, true, true, true, false, false, false, false] (fun _ => [(47, .int .i64 0), (55, .int .i64 0), (50, .int .i64 2), (58, .int .i64 3)]) (fun _ w' => w18 = w') ?_ ?_
      rotate_left
      · intro hCont
        refine two_ (i := 10) (j := 18) (Ni := some 47) (Nj := some 55) #[true, true, true, true, true, true, true, true, true, true, true, true, true, false, true, true, true, true, false, true, true, false, false, false, false, false] #[true, true, true, true, true, true, true, true, true, true, false, true, true, false, true, true, true, true, true, true, true, false, false, false, false, false] rfl rfl rfl rfl (by kernel_rfl) (by decide) (by decide) (fun K hK => ?_) (fun K hK => ?_)
        · skip
          refine value_ (w1 := ?_) (v := ?_) (by rfl) rfl ?_ ?_
          rotate_left 2
          · go_simp
            constructor
            · rfl
            · rfl
          refine hK.out _ _ ⟨(blk_cell QC8.out 0).trans rfl, (blk_cell QC8.out 1).trans rfl, (blk_cell QC8.out 2).trans rfl, (blk_cell QC8.out 3).trans rfl⟩ (fun hHeld => ?_)
          clear hK K
          refine norm_ (a' := ?_) ?_ ?_
          rotate_left
          · show Act.put _ (some 47) _ = _
            simp only [Act.put, List.setIfInBounds_toArray, List.set_cons_zero, List.set_cons_succ, i64_w, i32_w]
            rfl
          refine pure_ (i := 13) (N := some 50) (v := ?_) (a' := ?_) #[true, true, true, true, true, true, true, true, true, true, true, true, true, true, true, true, true, true, false, true, true, false, false, false, false, false] rfl rfl (by kernel_rfl) (fun _ _ _ h => h) (Or.inl ⟨by rfl, ?_⟩) ?_ ?_
          rotate_left
          · intro w'
            go_simp
            with_reducible rfl
          rotate_left
          · simp only [Act.put, List.setIfInBounds_toArray, List.set_cons_zero, List.set_cons_succ, i64_w, i32_w]
            rfl
          refine one_ (i := 18) (N := some 55) #[true, true, true, true, true, true, true, true, true, true, true, true, true, true, true, true, true, true, true, true, true, false, false, false, false, false] rfl rfl (by kernel_rfl) (by decide) (fun K hK => ?_)
          refine value_ (w1 := ?_) (v := ?_) (by rfl) rfl ?_ ?_
          rotate_left 2
          · go_simp
            constructor
            · rfl
            · rfl
          refine hK.out _ _ ⟨(blk_cell QC8.out 0).trans rfl, (blk_cell QC8.out 1).trans rfl, (blk_cell QC8.out 2).trans rfl, (blk_cell QC8.out 3).trans rfl⟩ (fun hHeld => ?_)
          clear hK K
          refine norm_ (a' := ?_) ?_ ?_
          rotate_left
          · show Act.put _ (some 55) _ = _
            simp only [Act.put, List.setIfInBounds_toArray, List.set_cons_zero, List.set_cons_succ, i64_w, i32_w]
            rfl
          refine pure_ (i := 21) (N := some 58) (v := ?_) (a' := ?_) #[true, true, true, true, true, true, true, true, true, true, true, true, true, true, true, true, true, true, true, true, true, true, false, false, false, false] rfl rfl (by kernel_rfl) (fun _ _ _ h => h) (Or.inl ⟨by rfl, ?_⟩) ?_ ?_
          rotate_left
          · intro w'
            go_simp
            with_reducible rfl
          rotate_left
          · simp only [Act.put, List.setIfInBounds_toArray, List.set_cons_zero, List.set_cons_succ, i64_w, i32_w]
            rfl
          exact norm_ (by simp only [putAll, Act.put, List.setIfInBounds_toArray, List.set_cons_zero, List.set_cons_succ]) (hCont () _ rfl)
        · skip
          refine value_ (w1 := ?_) (v := ?_) (by rfl) rfl ?_ ?_
          rotate_left 2
          · go_simp
            constructor
            · rfl
            · rfl
          refine hK.out _ _ ⟨(blk_cell QC8.out 0).trans rfl, (blk_cell QC8.out 1).trans rfl, (blk_cell QC8.out 2).trans rfl, (blk_cell QC8.out 3).trans rfl⟩ (fun hHeld => ?_)
          clear hK K
          refine norm_ (a' := ?_) ?_ ?_
          rotate_left
          · show Act.put _ (some 55) _ = _
            simp only [Act.put, List.setIfInBounds_toArray, List.set_cons_zero, List.set_cons_succ, i64_w, i32_w]
            rfl
          refine pure_ (i := 21) (N := some 58) (v := ?_) (a' := ?_) #[true, true, true, true, true, true, true, true, true, true, false, true, true, false, true, true, true, true, true, true, true, true, false, false, false, false] rfl rfl (by kernel_rfl) (fun _ _ _ h => h) (Or.inl ⟨by rfl, ?_⟩) ?_ ?_
          rotate_left
          · intro w'
            go_simp
            with_reducible rfl
          rotate_left
          · simp only [Act.put, List.setIfInBounds_toArray, List.set_cons_zero, List.set_cons_succ, i64_w, i32_w]
            rfl
          refine one_ (i := 10) (N := some 47) #[true, true, true, true, true, true, true, true, true, true, true, true, true, false, true, true, true, true, true, true, true, true, false, false, false, false] rfl rfl (by kernel_rfl) (by decide) (fun K hK => ?_)
          refine value_ (w1 := ?_) (v := ?_) (by rfl) rfl ?_ ?_
          rotate_left 2
          · go_simp
            constructor
            · rfl
            · rfl
          refine hK.out _ _ ⟨(blk_cell QC8.out 0).trans rfl, (blk_cell QC8.out 1).trans rfl, (blk_cell QC8.out 2).trans rfl, (blk_cell QC8.out 3).trans rfl⟩ (fun hHeld => ?_)
          clear hK K
          refine norm_ (a' := ?_) ?_ ?_
          rotate_left
          · show Act.put _ (some 47) _ = _
            simp only [Act.put, List.setIfInBounds_toArray, List.set_cons_zero, List.set_cons_succ, i64_w, i32_w]
            rfl
          refine pure_ (i := 13) (N := some 50) (v := ?_) (a' := ?_) #[true, true, true, true, true, true, true, true, true, true, true, true, true, true, true, true, true, true, true, true, true, true, false, false, false, false] rfl rfl (by kernel_rfl) (fun _ _ _ h => h) (Or.inl ⟨by rfl, ?_⟩) ?_ ?_
          rotate_left
          · intro w'
            go_simp
            with_reducible rfl
          rotate_left
          · simp only [Act.put, List.setIfInBounds_toArray, List.set_cons_zero, List.set_cons_succ, i64_w, i32_w]
            rfl
          exact norm_ (by simp only [putAll, Act.put, List.setIfInBounds_toArray, List.set_cons_zero, List.set_cons_succ]) (hCont () _ rfl)
      rintro ⟨⟩ w' rfl
      have hHeld : w18.cell? ⟨gc, 0, none⟩ = some (.int .i64 2) ∧ w18.cell? ⟨gc, 1, none⟩ = some (.int .i64 3) ∧ w18.cell? ⟨gc, 2, none⟩ = some (.int .i64 1) ∧ w18.cell? ⟨gc, 3, none⟩ = some (.int .i64 1) := ⟨(blk_cell QC8.out 0).trans rfl, (blk_cell QC8.out 1).trans rfl, (blk_cell QC8.out 2).trans rfl, (blk_cell QC8.out 3).trans rfl⟩
      refine norm_ (a' := ?_) ?_ ?_
      rotate_left
      · simp only [putAll, Act.put, List.setIfInBounds_toArray, List.set_cons_zero, List.set_cons_succ]
        rfl
      refine pure_ (i := 22) (N := some 59) (v := ?_) (a' := ?_) #[true, true, true, true, true, true, true, true, true, true, true, true, true, true, true, true, true, true, true, true, true, true, true, false, false, false] rfl rfl (by kernel_rfl) (fun _ _ _ h => h) (Or.inl ⟨by rfl, ?_⟩) ?_ ?_
      rotate_left
      · intro w'
        go_simp
        with_reducible rfl
      rotate_left
      · simp only [Act.put, List.setIfInBounds_toArray, List.set_cons_zero, List.set_cons_succ, i64_w, i32_w]
        rfl
      refine one_ (i := 23) (N := none) #[true, true, true, true, true, true, true, true, true, true, true, true, true, true, true, true, true, true, true, true, true, true, true, true, false, false] rfl rfl (by kernel_rfl) (by decide) (fun K hK => ?_)
      refine skip_ (w1 := ?_) (by rfl) rfl ?_ ?_
      rotate_left
      · go_simp
        rfl
      refine hK.out _ _ ⟨(blk_cell (blk_far QC8.out Ncl (.int .i64 2)) 0).trans rfl, (blk_cell (blk_far QC8.out Ncl (.int .i64 2)) 1).trans rfl, (blk_cell (blk_far QC8.out Ncl (.int .i64 2)) 2).trans rfl, (blk_cell (blk_far QC8.out Ncl (.int .i64 2)) 3).trans rfl⟩ (fun hHeld => ?_)
      clear hK K
      refine pure_ (i := 24) (N := some 60) (v := ?_) (a' := ?_) #[true, true, true, true, true, true, true, true, true, true, true, true, true, true, true, true, true, true, true, true, true, true, true, true, true, false] rfl rfl (by kernel_rfl) (fun _ _ _ h => h) (Or.inl ⟨by rfl, ?_⟩) ?_ ?_
      rotate_left
      · intro w'
        go_simp
        with_reducible rfl
      rotate_left
      · simp only [Act.put, List.setIfInBounds_toArray, List.set_cons_zero, List.set_cons_succ, i64_w, i32_w]
        rfl
      refine one_ (i := 25) (N := none) #[true, true, true, true, true, true, true, true, true, true, true, true, true, true, true, true, true, true, true, true, true, true, true, true, true, true] rfl rfl (by kernel_rfl) (by decide) (fun K hK => ?_)
      refine skip_ (w1 := ?_) (by rfl) rfl ?_ ?_
      rotate_left
      · go_simp
        rfl
      refine hK.out _ _ ⟨(blk_cell (blk_far (blk_far QC8.out Ncl (.int .i64 2)) Ncm (.int .i64 3)) 0).trans rfl, (blk_cell (blk_far (blk_far QC8.out Ncl (.int .i64 2)) Ncm (.int .i64 3)) 1).trans rfl, (blk_cell (blk_far (blk_far QC8.out Ncl (.int .i64 2)) Ncm (.int .i64 3)) 2).trans rfl, (blk_cell (blk_far (blk_far QC8.out Ncl (.int .i64 2)) Ncm (.int .i64 3)) 3).trans rfl⟩ (fun hHeld => ?_)
      clear hK K
      refine done_ (by kernel_rfl) ?_
      have Nal : ga ≠ gl := fun e => Nla e.symm
      have Nam : ga ≠ gm := fun e => Nma e.symm
      clear hHeld cl cm fl fm
      go_wp2
      go_roundw
      case rel => exact ⟨2, 5, 2, 9, 3, by rfl, Or.inr (Or.inr ⟨rfl, rfl, rfl, rfl, rfl⟩), ⟨blk_far (blk_put QL8.out 1 (.int .i64 2) (by simp [duo])) Nlm _⟩, ⟨blk_put (blk_far QM8.out Nml _) 1 (.int .i64 3) (by simp [duo])⟩, ⟨blk_far (blk_far QA8.out Nal _) Nam _⟩, ⟨(QB8.out.setCell WL.out _).setCell WM.out _⟩⟩
      case measure => simp [intOf]
    · go_wp2
      go_loopw [92] (fun v wr => ∃ i : Int, v = .int .i64 i ∧ (i = 0 ∨ i = 1 ∨ i = 2) ∧ Aside0 (wr.heap[gl]? = some (.cells (duo 5 2 taill).toArray 3 (0, 0))) ∧ Aside0 (wr.heap[gm]? = some (.cells (duo 9 3 tailm).toArray 3 (0, 0))) ∧ Aside0 (Below w.heap.size w wr)) (fun v _ => 2 - (intOf v).toNat)
      case atStart => exact ⟨0, rfl, Or.inl rfl, HLr, HMr, HBr⟩
      case round =>
        clear HLr HMr HAr HBr
        obtain ⟨i, rfl, hi, HLr, HMr, HBr⟩ := hrel
        rcases hi with rfl | rfl | rfl
        · have cl : wr.cell? ⟨gl, 0, none⟩ = some (.int .i64 5) := (blk_cell HLr.out 0).trans rfl
          go_wp2_with fail
          refine start_ (n := 13) (S := fun w' => w'.cell? ⟨gm, 0, none⟩ = some (.int .i64 9) ∧ w'.cell? ⟨gl, 0, none⟩ = some (.int .i64 5)) (ds := [12]) #[false, false, false, false, false, false, false, false, false, false, false, false, false] (by kernel_rfl) rfl rfl ⟨(blk_cell (show wr.drew.heap[gm]? = _ from HMr.out) 0).trans rfl, (blk_cell (show wr.drew.heap[gl]? = _ from HLr.out) 0).trans rfl⟩ (fun hHeld => ?_)
          have QL8 : Aside0 (wr.drew.heap[gl]? = _) := ⟨HLr.out⟩
          have QM8 : Aside0 (wr.drew.heap[gm]? = _) := ⟨HMr.out⟩
          have QB8 := Aside0.mk (below_drew1 HBr.out)
          clear cl
          generalize wr.drew = w20 at QL8 QM8 QB8 hHeld ⊢
          have cm : w20.cell? ⟨gm, 0, none⟩ = some (.int .i64 9) := (blk_cell QM8.out 0).trans rfl
          have fm := blk_frozen QM8.out 0
          refine pure_ (i := 0) (N := some 95) (v := ?_) (a' := ?_) #[true, false, false, false, false, false, false, false, false, false, false, false, false] rfl rfl (by kernel_rfl) (fun _ _ _ h => h) (Or.inl ⟨by rfl, ?_⟩) ?_ ?_
          rotate_left
          · intro w'
            go_simp
            with_reducible rfl
          rotate_left
          · simp only [Act.put, List.setIfInBounds_toArray, List.set_cons_zero, List.set_cons_succ, i64_w, i32_w]
            rfl
          refine pure_ (i := 1) (N := some 96) (v := ?_) (a' := ?_) #[true, true, false, false, false, false, false, false, false, false, false, false, false] rfl rfl (by kernel_rfl) (fun _ _ _ h => h) (Or.inl ⟨by rfl, ?_⟩) ?_ ?_
          rotate_left
          · intro w'
            go_simp
            with_reducible rfl
          rotate_left
          · simp only [Act.put, List.setIfInBounds_toArray, List.set_cons_zero, List.set_cons_succ, i64_w, i32_w]
            rfl
          refine pure_ (i := 2) (N := some 97) (v := ?_) (a' := ?_) #[true, true, true, false, false, false, false, false, false, false, false, false, false] rfl rfl (by kernel_rfl) (fun _ _ _ h => h) (Or.inl ⟨by rfl, ?_⟩) ?_ ?_
          rotate_left
          · intro w'
            go_simp
            with_reducible rfl
          rotate_left
          · simp only [Act.put, List.setIfInBounds_toArray, List.set_cons_zero, List.set_cons_succ, i64_w, i32_w]
            rfl
          refine pure_ (i := 3) (N := some 98) (v := ?_) (a' := ?_) #[true, true, true, true, false, false, false, false, false, false, false, false, false] rfl rfl (by kernel_rfl) (fun _ _ _ h => h) (Or.inl ⟨by rfl, ?_⟩) ?_ ?_
          rotate_left
          · intro w'
            go_simp
            with_reducible rfl
          rotate_left
          · simp only [Act.put, List.setIfInBounds_toArray, List.set_cons_zero, List.set_cons_succ, i64_w, i32_w]
            rfl
          refine pure_ (i := 4) (N := some 99) (v := ?_) (a' := ?_) #[true, true, true, true, true, false, false, false, false, false, false, false, false] rfl rfl (by kernel_rfl) (fun _ _ _ h => h) (Or.inl ⟨by rfl, ?_⟩) ?_ ?_
          rotate_left
          · intro w'
            go_simp
            with_reducible rfl
          rotate_left
          · simp only [Act.put, List.setIfInBounds_toArray, List.set_cons_zero, List.set_cons_succ, i64_w, i32_w]
            rfl
          refine pure_ (i := 6) (N := some 101) (v := ?_) (a' := ?_) #[true, true, true, true, true, false, true, false, false, false, false, false, false] rfl rfl (by kernel_rfl) (fun _ _ _ h => h) (Or.inl ⟨by rfl, ?_⟩) ?_ ?_
          rotate_left
          · intro w'
            go_simp
            with_reducible rfl
          rotate_left
          · simp only [Act.put, List.setIfInBounds_toArray, List.set_cons_zero, List.set_cons_succ, i64_w, i32_w]
            rfl
          refine pure_ (i := 7) (N := some 102) (v := ?_) (a' := ?_) #[true, true, true, true, true, false, true, true, false, false, false, false, false] rfl rfl (by kernel_rfl) (fun _ _ _ h => h) (Or.inl ⟨by rfl, ?_⟩) ?_ ?_
          rotate_left
          · intro w'
            go_simp
            with_reducible rfl
          rotate_left
          · simp only [Act.put, List.setIfInBounds_toArray, List.set_cons_zero, List.set_cons_succ, i64_w, i32_w]
            rfl
          refine pure_ (i := 8) (N := some 103) (v := ?_) (a' := ?_) #[true, true, true, true, true, false, true, true, true, false, false, false, false] rfl rfl (by kernel_rfl) (fun _ _ _ h => h) (Or.inl ⟨by rfl, ?_⟩) ?_ ?_
          rotate_left
          · intro w'
            go_simp
            with_reducible rfl
          rotate_left
          · simp only [Act.put, List.setIfInBounds_toArray, List.set_cons_zero, List.set_cons_succ, i64_w, i32_w]
            rfl
          refine take_ (i := 5) (N := some 100) (v := ?_) (a' := ?_) #[true, true, true, true, true, true, true, true, true, false, false, false, false] rfl rfl (by kernel_rfl) (fun _ _ _ h => h) (Or.inl ⟨by rfl, ?_⟩) hHeld ?_ ?_
          rotate_left
          · rintro w' ⟨s0, s1⟩
            go_simp
            with_reducible rfl
          rotate_left
          · simp only [Act.put, List.setIfInBounds_toArray, List.set_cons_zero, List.set_cons_succ, i64_w, i32_w]
            rfl
          refine take_ (i := 9) (N := some 104) (v := ?_) (a' := ?_) #[true, true, true, true, true, true, true, true, true, true, false, false, false] rfl rfl (by kernel_rfl) (fun _ _ _ h => h) (Or.inl ⟨by rfl, ?_⟩) hHeld ?_ ?_
          rotate_left
          · rintro w' ⟨s0, s1⟩
            go_simp
            with_reducible rfl
          rotate_left
          · simp only [Act.put, List.setIfInBounds_toArray, List.set_cons_zero, List.set_cons_succ, i64_w, i32_w]
            rfl
          refine pure_ (i := 10) (N := some 105) (v := ?_) (a' := ?_) #[true, true, true, true, true, true, true, true, true, true, true, false, false] rfl rfl (by kernel_rfl) (fun _ _ _ h => h) (Or.inl ⟨by rfl, ?_⟩) ?_ ?_
          rotate_left
          · intro w'
            go_simp
            with_reducible rfl
          rotate_left
          · simp only [Act.put, List.setIfInBounds_toArray, List.set_cons_zero, List.set_cons_succ, i64_w, i32_w]
            rfl
          refine pure_ (i := 11) (N := some 106) (v := ?_) (a' := ?_) #[true, true, true, true, true, true, true, true, true, true, true, true, false] rfl rfl (by kernel_rfl) (fun _ _ _ h => h) (Or.inl ⟨by rfl, ?_⟩) ?_ ?_
          rotate_left
          · intro w'
            go_simp
            with_reducible rfl
          rotate_left
          · simp only [Act.put, List.setIfInBounds_toArray, List.set_cons_zero, List.set_cons_succ, i64_w, i32_w]
            rfl
          refine last_ (i := 12) (N := none) #[true, true, true, true, true, true, true, true, true, true, true, true, true] rfl rfl (by kernel_rfl) (by decide) (fun K hK => ?_)
          refine skip_ (w1 := ?_) (by rfl) rfl ?_ ?_
          rotate_left
          · go_simp
            rfl
          refine hK.out _ _ ?_
          clear hK K
          refine done_ (by kernel_rfl) ?_
          clear cm fm
          go_wp2
          go_roundw
          case rel => exact ⟨1, by rfl, Or.inr (Or.inl rfl), ⟨blk_far QL8.out Nlm _⟩, ⟨blk_put QM8.out 0 (.int .i64 9) (by simp [duo])⟩, ⟨QB8.out.setCell WM.out _⟩⟩
          case measure => simp [intOf]
        · have cl : wr.cell? ⟨gl, 1, none⟩ = some (.int .i64 2) := (blk_cell HLr.out 1).trans rfl
          go_wp2_with fail
          refine start_ (n := 13) (S := fun w' => w'.cell? ⟨gm, 1, none⟩ = some (.int .i64 3) ∧ w'.cell? ⟨gl, 1, none⟩ = some (.int .i64 2)) (ds := [12]) #[false, false, false, false, false, false, false, false, false, false, false, false, false] (by kernel_rfl) rfl rfl ⟨(blk_cell (show wr.drew.heap[gm]? = _ from HMr.out) 1).trans rfl, (blk_cell (show wr.drew.heap[gl]? = _ from HLr.out) 1).trans rfl⟩ (fun hHeld => ?_)
          have QL8 : Aside0 (wr.drew.heap[gl]? = _) := ⟨HLr.out⟩
          have QM8 : Aside0 (wr.drew.heap[gm]? = _) := ⟨HMr.out⟩
          have QB8 := Aside0.mk (below_drew1 HBr.out)
          clear cl
          generalize wr.drew = w20 at QL8 QM8 QB8 hHeld ⊢
          have cm : w20.cell? ⟨gm, 1, none⟩ = some (.int .i64 3) := (blk_cell QM8.out 1).trans rfl
          have fm := blk_frozen QM8.out 1
          refine pure_ (i := 0) (N := some 95) (v := ?_) (a' := ?_) #[true, false, false, false, false, false, false, false, false, false, false, false, false] rfl rfl (by kernel_rfl) (fun _ _ _ h => h) (Or.inl ⟨by rfl, ?_⟩) ?_ ?_
          rotate_left
          · intro w'
            go_simp
            with_reducible rfl
          rotate_left
          · simp only [Act.put, List.setIfInBounds_toArray, List.set_cons_zero, List.set_cons_succ, i64_w, i32_w]
            rfl
          refine pure_ (i := 1) (N := some 96) (v := ?_) (a' := ?_) #[true, true, false, false, false, false, false, false, false, false, false, false, false] rfl rfl (by kernel_rfl) (fun _ _ _ h => h) (Or.inl ⟨by rfl, ?_⟩) ?_ ?_
          rotate_left
          · intro w'
            go_simp
            with_reducible rfl
          rotate_left
          · simp only [Act.put, List.setIfInBounds_toArray, List.set_cons_zero, List.set_cons_succ, i64_w, i32_w]
            rfl
          refine pure_ (i := 2) (N := some 97) (v := ?_) (a' := ?_) #[true, true, true, false, false, false, false, false, false, false, false, false, false] rfl rfl (by kernel_rfl) (fun _ _ _ h => h) (Or.inl ⟨by rfl, ?_⟩) ?_ ?_
          rotate_left
          · intro w'
            go_simp
            with_reducible rfl
          rotate_left
          · simp only [Act.put, List.setIfInBounds_toArray, List.set_cons_zero, List.set_cons_succ, i64_w, i32_w]
            rfl
          refine pure_ (i := 3) (N := some 98) (v := ?_) (a' := ?_) #[true, true, true, true, false, false, false, false, false, false, false, false, false] rfl rfl (by kernel_rfl) (fun _ _ _ h => h) (Or.inl ⟨by rfl, ?_⟩) ?_ ?_
          rotate_left
          · intro w'
            go_simp
            with_reducible rfl
          rotate_left
          · simp only [Act.put, List.setIfInBounds_toArray, List.set_cons_zero, List.set_cons_succ, i64_w, i32_w]
            rfl
          refine pure_ (i := 4) (N := some 99) (v := ?_) (a' := ?_) #[true, true, true, true, true, false, false, false, false, false, false, false, false] rfl rfl (by kernel_rfl) (fun _ _ _ h => h) (Or.inl ⟨by rfl, ?_⟩) ?_ ?_
          rotate_left
          · intro w'
            go_simp
            with_reducible rfl
          rotate_left
          · simp only [Act.put, List.setIfInBounds_toArray, List.set_cons_zero, List.set_cons_succ, i64_w, i32_w]
            rfl
          refine pure_ (i := 6) (N := some 101) (v := ?_) (a' := ?_) #[true, true, true, true, true, false, true, false, false, false, false, false, false] rfl rfl (by kernel_rfl) (fun _ _ _ h => h) (Or.inl ⟨by rfl, ?_⟩) ?_ ?_
          rotate_left
          · intro w'
            go_simp
            with_reducible rfl
          rotate_left
          · simp only [Act.put, List.setIfInBounds_toArray, List.set_cons_zero, List.set_cons_succ, i64_w, i32_w]
            rfl
          refine pure_ (i := 7) (N := some 102) (v := ?_) (a' := ?_) #[true, true, true, true, true, false, true, true, false, false, false, false, false] rfl rfl (by kernel_rfl) (fun _ _ _ h => h) (Or.inl ⟨by rfl, ?_⟩) ?_ ?_
          rotate_left
          · intro w'
            go_simp
            with_reducible rfl
          rotate_left
          · simp only [Act.put, List.setIfInBounds_toArray, List.set_cons_zero, List.set_cons_succ, i64_w, i32_w]
            rfl
          refine pure_ (i := 8) (N := some 103) (v := ?_) (a' := ?_) #[true, true, true, true, true, false, true, true, true, false, false, false, false] rfl rfl (by kernel_rfl) (fun _ _ _ h => h) (Or.inl ⟨by rfl, ?_⟩) ?_ ?_
          rotate_left
          · intro w'
            go_simp
            with_reducible rfl
          rotate_left
          · simp only [Act.put, List.setIfInBounds_toArray, List.set_cons_zero, List.set_cons_succ, i64_w, i32_w]
            rfl
          refine take_ (i := 5) (N := some 100) (v := ?_) (a' := ?_) #[true, true, true, true, true, true, true, true, true, false, false, false, false] rfl rfl (by kernel_rfl) (fun _ _ _ h => h) (Or.inl ⟨by rfl, ?_⟩) hHeld ?_ ?_
          rotate_left
          · rintro w' ⟨s0, s1⟩
            go_simp
            with_reducible rfl
          rotate_left
          · simp only [Act.put, List.setIfInBounds_toArray, List.set_cons_zero, List.set_cons_succ, i64_w, i32_w]
            rfl
          refine take_ (i := 9) (N := some 104) (v := ?_) (a' := ?_) #[true, true, true, true, true, true, true, true, true, true, false, false, false] rfl rfl (by kernel_rfl) (fun _ _ _ h => h) (Or.inl ⟨by rfl, ?_⟩) hHeld ?_ ?_
          rotate_left
          · rintro w' ⟨s0, s1⟩
            go_simp
            with_reducible rfl
          rotate_left
          · simp only [Act.put, List.setIfInBounds_toArray, List.set_cons_zero, List.set_cons_succ, i64_w, i32_w]
            rfl
          refine pure_ (i := 10) (N := some 105) (v := ?_) (a' := ?_) #[true, true, true, true, true, true, true, true, true, true, true, false, false] rfl rfl (by kernel_rfl) (fun _ _ _ h => h) (Or.inl ⟨by rfl, ?_⟩) ?_ ?_
          rotate_left
          · intro w'
            go_simp
            with_reducible rfl
          rotate_left
          · simp only [Act.put, List.setIfInBounds_toArray, List.set_cons_zero, List.set_cons_succ, i64_w, i32_w]
            rfl
          refine pure_ (i := 11) (N := some 106) (v := ?_) (a' := ?_) #[true, true, true, true, true, true, true, true, true, true, true, true, false] rfl rfl (by kernel_rfl) (fun _ _ _ h => h) (Or.inl ⟨by rfl, ?_⟩) ?_ ?_
          rotate_left
          · intro w'
            go_simp
            with_reducible rfl
          rotate_left
          · simp only [Act.put, List.setIfInBounds_toArray, List.set_cons_zero, List.set_cons_succ, i64_w, i32_w]
            rfl
          refine last_ (i := 12) (N := none) #[true, true, true, true, true, true, true, true, true, true, true, true, true] rfl rfl (by kernel_rfl) (by decide) (fun K hK => ?_)
          refine skip_ (w1 := ?_) (by rfl) rfl ?_ ?_
          rotate_left
          · go_simp
            rfl
          refine hK.out _ _ ?_
          clear hK K
          refine done_ (by kernel_rfl) ?_
          clear cm fm
          go_wp2
          go_roundw
          case rel => exact ⟨2, by rfl, Or.inr (Or.inr rfl), ⟨blk_far QL8.out Nlm _⟩, ⟨blk_put QM8.out 1 (.int .i64 3) (by simp [duo])⟩, ⟨QB8.out.setCell WM.out _⟩⟩
          case measure => simp [intOf]
        · go_wp2
          go_ret2
          exact ⟨_, _, rfl, duo_own WL.out HLr.out hll HML.out, duo_own WM.out HMr.out hlm HMM.out, HBr.out⟩
end Go.Proofs.Ytaejmgdpnnhpmaa.QTableWidths
