/- The reference's FragCmds' closure at its five properties, walked by hand. -/
import Derived.Test.YtaejmgdpnnhpmaaFrSmall
namespace Go.Proofs.Ytaejmgdpnnhpmaa.QSty
open Go.RowKit Go.Proofs.YtaejmgdpnnhpmaaW.PrintWords Go.Proofs.YtaejmgdpnnhpmaaW.PrintLast Go.Proofs.YtaejmgdpnnhpmaaW.PrintMore
set_option linter.unusedVariables false
set_option linter.unusedSimpArgs false
/-- Is a fill seen? -/
def seen (w h color : Int) : Bool := decide (w > 0) && (decide (h > 0) && decide (bits .and .i64 color 255 > 0))
/-- A row of commands, one more told, its variable stored: what stands behind. -/
theorem fill_end {w w1 : World} {go N b : Nat} {v v1 : Value} {l : List S45} (hN : go < N) (hNw : N ≤ w.heap.size) (hb : b ≤ go) (hr : Kd.R k45 45 w1 N (fun _ => True) v1 l) (hB : Below N w w1) (ho : w1.heap[go]? = some (.cells #[v] 46 (0, 0))) :
    ∃ v', Ending.returned (.tuple #[]) = Ending.returned (.tuple #[]) ∧ (w1.setCell ⟨go, 0, none⟩ v1).heap[go]? = some (.cells #[v'] 46 (0, 0)) ∧ Kd.R k45 45 (w1.setCell ⟨go, 0, none⟩ v1) N (fun _ => True) v' l ∧ N ≤ (w1.setCell ⟨go, 0, none⟩ v1).heap.size ∧ (∀ k, k < N → k ≠ go → (w1.setCell ⟨go, 0, none⟩ v1).heap[k]? = w.heap[k]?) ∧ Below b w (w1.setCell ⟨go, 0, none⟩ v1) := by
  have hR := Kd.R_mono (Kd.R_far (p := ⟨go, 0, none⟩) (Kd.R_mono (ok' := fun k => N ≤ k) (Kd.R_bound hr) (fun k hk => hk.2.1)) (fun k hk => by show k ≠ go; have h : N ≤ k := hk; omega) v1) (ok' := fun _ => True) (fun _ _ => trivial)
  refine ⟨v1, rfl, blk_put ho 0 v1 rfl, hR, ?_, fun k hk hne => (Below.heap_setCell w1 ⟨go, 0, none⟩ v1 k hne).trans (hB.block k hk), (hB.mono (show b ≤ N by omega)).setCell hb v1⟩
  have := hB.size
  have e : (w1.setCell ⟨go, 0, none⟩ v1).heap.size = w1.heap.size := by simp [World.setCell]
  rw [e]
  omega
def cmdS (node x y w h color : Int) : S45 := ⟨1, node, x, y, w, h, color, 0, ⟨#[]⟩⟩
set_option maxHeartbeats 8000000 in
set_option maxRecDepth 100000 in
theorem ref_Fill_36.calls (f : Fr) (xs : List Int) (hl : xs.length = 118) (x y ww hh : Int) (gf gs go N b : Nat) (v : Value) (l : List S45) (w : World) (hN : go < N) (hNw : N ≤ w.heap.size) (hb_ : b ≤ go) (hfN : gf < N) (hsN : gs < N) (hgf : gf ≠ go) (hgs : gs ≠ go) (hlen : l.length ≤ 1000)
    (hf : w.heap[gf]? = some (.cells (frc f) 41 (0, 0))) (hs : w.heap[gs]? = some (.cells (nums .i64 xs).toArray 25 (0, 0))) (ho : w.heap[go]? = some (.cells #[v] 46 (0, 0))) (hr : Kd.R k45 45 w N (fun _ => True) v l) :
    Calls Try.prog 63 #[.int .i64 x, .int .i64 y, .int .i64 ww, .int .i64 hh, .int .i64 36, .pointer (some ⟨gs, 0, none⟩), .pointer (some ⟨go, 0, none⟩), .pointer (some ⟨gf, 0, none⟩)] w fun e w' => ∃ v', e = .returned (.tuple #[]) ∧ w'.heap[go]? = some (.cells #[v'] 46 (0, 0)) ∧ Kd.R k45 45 w' N (fun _ => True) v' (l ++ if seen ww hh (xs.getD 73 0) = true then [cmdS f.f1 x y ww hh (xs.getD 73 0)] else []) ∧ N ≤ w'.heap.size ∧ (∀ k, k < N → k ≠ go → w'.heap[k]? = w.heap[k]?) ∧ Below b w w' := by
  obtain ⟨a, ha⟩ : ∃ a, (nums .i64 xs).toArray = a := ⟨_, rfl⟩
  have AC : a[73]? = some (.int .i64 (xs.getD 73 0)) := by rw [← ha]; simp [nums, hl]
  rw [ha] at hs
  clear ha
  have KF := Aside0.mk hf
  have KS := Aside0.mk hs
  have KO := Aside0.mk ho
  have HR := Aside0.mk hr
  have hown : ∀ k, k < N → some k ≠ v.ownBlock := fun k hk e => by have := Kd.R_base hr k e.symm; omega
  have HOWN := Aside0.mk hown
  have ACA := Aside0.mk AC
  have vf : w.cell? ⟨gf, 1, none⟩ = some (.int .i64 f.f1) := (blk_cell hf 1).trans rfl
  have vs : w.cell? ⟨gs, 73, none⟩ = some (.int .i64 (xs.getD 73 0)) := (blk_cell hs 73).trans AC
  have vo : w.cell? ⟨go, 0, none⟩ = some v := (blk_cell ho 0).trans rfl
  clear hf hs ho hr AC hown
  have HN := Aside0.mk hN
  have HNW := Aside0.mk hNw
  have HBG := Aside0.mk hb_
  have HFN := Aside0.mk hfN
  have HSN := Aside0.mk hsN
  have HLEN := Aside0.mk hlen
  clear hN hNw hb_ hfN hsN hlen
  obtain ⟨node, hnode⟩ : ∃ n, f.f1 = n := ⟨_, rfl⟩
  obtain ⟨col, hcol⟩ : ∃ n, xs.getD 73 0 = n := ⟨_, rfl⟩
  rw [hnode] at vf ⊢
  rw [hcol] at vs ACA ⊢
  have HFR : Aside0 ((frc f)[1]? = some (.int .i64 node)) := ⟨by rw [← hnode]; rfl⟩
  clear hnode hcol
  have none_ : ∀ (s : Bool), s = false → (if s = true then [cmdS node x y ww hh col] else ([] : List S45)) = [] := fun s h => by rw [h]; rfl
  by_cases c1 : ww > 0
  · by_cases c2 : hh > 0
    · by_cases c3 : bits .and .i64 col 255 > 0
      · have b1 : decide (ww > 0) = true := decide_eq_true c1
        have b2 : decide (hh > 0) = true := decide_eq_true c2
        have b3 : decide (bits .and .i64 col 255 > 0) = true := decide_eq_true c3
        have hs_ : seen ww hh col = true := by unfold seen; rw [b1, b2, b3]; rfl
        rw [if_pos hs_]
        clear c1 c2 c3 hs_ none_
        go_enter Try.func63, Try.ntmps63
        go_wp2
        refine start_ (n := 15) (S := fun w' => w'.cell? ⟨gf, 1, none⟩ = some (.int .i64 node) ∧ w'.cell? ⟨gs, 73, none⟩ = some (.int .i64 col) ∧ w'.cell? ⟨go, 0, none⟩ = some v) (ds := [14]) #[false, false, false, false, false, false, false, false, false, false, false, false, false, false, false] (by kernel_rfl) rfl rfl ⟨vf, vs, vo⟩ (fun hHeld => ?_)
        refine pure_ (i := 1) (N := some 28) (v := ?_) (a' := ?_) #[false, true, false, false, false, false, false, false, false, false, false, false, false, false, false] rfl rfl (by kernel_rfl) (fun _ _ _ h => h) (Or.inl ⟨by rfl, ?_⟩) ?_ ?_
        rotate_left
        · intro w'
          go_simp
          with_reducible rfl
        rotate_left
        · simp only [Act.put, List.setIfInBounds_toArray, List.set_cons_zero, List.set_cons_succ, i64_w, i32_w]
          rfl
        refine pure_ (i := 3) (N := some 30) (v := ?_) (a' := ?_) #[false, true, false, true, false, false, false, false, false, false, false, false, false, false, false] rfl rfl (by kernel_rfl) (fun _ _ _ h => h) (Or.inl ⟨by rfl, ?_⟩) ?_ ?_
        rotate_left
        · intro w'
          go_simp
          with_reducible rfl
        rotate_left
        · simp only [Act.put, List.setIfInBounds_toArray, List.set_cons_zero, List.set_cons_succ, i64_w, i32_w]
          rfl
        refine pure_ (i := 4) (N := some 31) (v := ?_) (a' := ?_) #[false, true, false, true, true, false, false, false, false, false, false, false, false, false, false] rfl rfl (by kernel_rfl) (fun _ _ _ h => h) (Or.inl ⟨by rfl, ?_⟩) ?_ ?_
        rotate_left
        · intro w'
          go_simp
          with_reducible rfl
        rotate_left
        · simp only [Act.put, List.setIfInBounds_toArray, List.set_cons_zero, List.set_cons_succ, i64_w, i32_w]
          rfl
        refine pure_ (i := 5) (N := some 32) (v := ?_) (a' := ?_) #[false, true, false, true, true, true, false, false, false, false, false, false, false, false, false] rfl rfl (by kernel_rfl) (fun _ _ _ h => h) (Or.inl ⟨by rfl, ?_⟩) ?_ ?_
        rotate_left
        · intro w'
          go_simp
          with_reducible rfl
        rotate_left
        · simp only [Act.put, List.setIfInBounds_toArray, List.set_cons_zero, List.set_cons_succ, i64_w, i32_w]
          rfl
        refine pure_ (i := 6) (N := some 33) (v := ?_) (a' := ?_) #[false, true, false, true, true, true, true, false, false, false, false, false, false, false, false] rfl rfl (by kernel_rfl) (fun _ _ _ h => h) (Or.inl ⟨by rfl, ?_⟩) ?_ ?_
        rotate_left
        · intro w'
          go_simp
          with_reducible rfl
        rotate_left
        · simp only [Act.put, List.setIfInBounds_toArray, List.set_cons_zero, List.set_cons_succ, i64_w, i32_w]
          rfl
        refine pure_ (i := 7) (N := some 34) (v := ?_) (a' := ?_) #[false, true, false, true, true, true, true, true, false, false, false, false, false, false, false] rfl rfl (by kernel_rfl) (fun _ _ _ h => h) (Or.inl ⟨by rfl, ?_⟩) ?_ ?_
        rotate_left
        · intro w'
          go_simp
          with_reducible rfl
        rotate_left
        · simp only [Act.put, List.setIfInBounds_toArray, List.set_cons_zero, List.set_cons_succ, i64_w, i32_w]
          rfl
        refine pure_ (i := 8) (N := some 35) (v := ?_) (a' := ?_) #[false, true, false, true, true, true, true, true, true, false, false, false, false, false, false] rfl rfl (by kernel_rfl) (fun _ _ _ h => h) (Or.inl ⟨by rfl, ?_⟩) ?_ ?_
        rotate_left
        · intro w'
          go_simp
          with_reducible rfl
        rotate_left
        · simp only [Act.put, List.setIfInBounds_toArray, List.set_cons_zero, List.set_cons_succ, i64_w, i32_w]
          rfl
        refine pure_ (i := 9) (N := some 36) (v := ?_) (a' := ?_) #[false, true, false, true, true, true, true, true, true, true, false, false, false, false, false] rfl rfl (by kernel_rfl) (fun _ _ _ h => h) (Or.inl ⟨by rfl, ?_⟩) ?_ ?_
        rotate_left
        · intro w'
          go_simp
          with_reducible rfl
        rotate_left
        · simp only [Act.put, List.setIfInBounds_toArray, List.set_cons_zero, List.set_cons_succ, i64_w, i32_w]
          rfl
        refine take_ (i := 0) (N := some 27) (v := ?_) (a' := ?_) #[true, true, false, true, true, true, true, true, true, true, false, false, false, false, false] rfl rfl (by kernel_rfl) (fun _ _ _ h => h) (Or.inl ⟨by rfl, ?_⟩) hHeld ?_ ?_
        rotate_left
        · rintro w' ⟨s0, s1, s2⟩
          go_simp
          with_reducible rfl
        rotate_left
        · simp only [Act.put, List.setIfInBounds_toArray, List.set_cons_zero, List.set_cons_succ, i64_w, i32_w]
          rfl
        refine take_ (i := 2) (N := some 29) (v := ?_) (a' := ?_) #[true, true, true, true, true, true, true, true, true, true, false, false, false, false, false] rfl rfl (by kernel_rfl) (fun _ _ _ h => h) (Or.inl ⟨by rfl, ?_⟩) hHeld ?_ ?_
        rotate_left
        · rintro w' ⟨s0, s1, s2⟩
          go_simp
          with_reducible rfl
        rotate_left
        · simp only [Act.put, List.setIfInBounds_toArray, List.set_cons_zero, List.set_cons_succ, i64_w, i32_w]
          rfl
        refine take_ (i := 10) (N := some 37) (v := ?_) (a' := ?_) #[true, true, true, true, true, true, true, true, true, true, true, false, false, false, false] rfl rfl (by kernel_rfl) (fun _ _ _ h => h) (Or.inl ⟨by rfl, ?_⟩) hHeld ?_ ?_
        rotate_left
        · rintro w' ⟨s0, s1, s2⟩
          go_simp
          with_reducible rfl
        rotate_left
        · simp only [Act.put, List.setIfInBounds_toArray, List.set_cons_zero, List.set_cons_succ, i64_w, i32_w]
          rfl
        refine pure_ (i := 11) (N := some 38) (v := ?_) (a' := ?_) #[true, true, true, true, true, true, true, true, true, true, true, true, false, false, false] rfl rfl (by kernel_rfl) (fun _ _ _ h => h) (Or.inl ⟨by rfl, ?_⟩) ?_ ?_
        rotate_left
        · intro w'
          go_simp
          with_reducible rfl
        rotate_left
        · simp only [Act.put, List.setIfInBounds_toArray, List.set_cons_zero, List.set_cons_succ, i64_w, i32_w]
          rfl
        refine one_ (i := 12) (N := some 39) #[true, true, true, true, true, true, true, true, true, true, true, true, true, false, false] rfl rfl (by kernel_rfl) (by decide) (fun K hK => ?_)
        refine value_ (w1 := ?_) (v := ?_) (by rfl) rfl ?_ ?_
        rotate_left 2
        · go_simp
          constructor
          · rfl
          · rfl
        refine hK.out _ _ ⟨(blk_cell (blk_alloc (show w.drew.heap[gf]? = _ from KF.out) _) 1).trans HFR.out, (blk_cell (blk_alloc (show w.drew.heap[gs]? = _ from KS.out) _) 73).trans ACA.out, (blk_cell (blk_alloc (show w.drew.heap[go]? = _ from KO.out) _) 0).trans rfl⟩ (fun hHeld => ?_)
        clear hK K
        refine norm_ (a' := ?_) ?_ ?_
        rotate_left
        · show Act.put _ (some 39) _ = _
          simp only [Act.put, List.setIfInBounds_toArray, List.set_cons_zero, List.set_cons_succ, i64_w, i32_w]
          rfl
        refine one_ (i := 13) (N := some 40) #[true, true, true, true, true, true, true, true, true, true, true, true, true, true, false] rfl rfl (by kernel_rfl) (by decide) (fun K hK => ?_)
        rw [show ∀ o, (w.alloc o).drew = w.drew.alloc o from fun _ => rfl]
        refine Kd.R_append_step k45 (w0 := w) N (by rfl) (.tmp 27) (.tmp 39) 46 45 (.agg #[(.int .i64 0), (.int .i64 0), (.int .i64 0), (.int .i64 0), (.int .i64 0), (.int .i64 0), (.int .i64 0), (.int .i64 0), (.string ⟨#[]⟩)]) 80 rfl Try.underlying46 info45 rfl (by decide) (by omega) v l (cmdS node x y ww hh col) [.int .i64 1, .int .i64 node, .int .i64 x, .int .i64 y, .int .i64 ww, .int .i64 hh, .int .i64 col, .int .i64 0, .string ⟨#[]⟩] (fun _ => True) (fun _ => False) rfl rfl ?aP (fun _ hk => hk.elim) ?aF ?aO ?aB ?aS ?aL ?_
        (case aP => exact k45_mkM _ _ _ (cmdS node x y ww hh col))
        (case aF => exact fun _ _ => trivial)
        (case aO => exact Kd.R_drew HR.out)
        (case aB => exact below_drew1 (Below.refl _ _))
        (case aS => exact HNW.out)
        (case aL => have := HLEN.out; omega)
        intro v1 w1 hr1 hb1 hg1 hat1
        obtain ⟨A1, q1, rfl, _, _⟩ := Kd.R_reads hr1
        have HR1 := Aside0.mk hr1
        have HB1 := Aside0.mk hb1
        have KF1 := Aside0.mk (blk_grown (show w.drew.heap[gf]? = _ from KF.out) hg1 (HOWN.out _ HFN.out))
        have KS1 := Aside0.mk (blk_grown (show w.drew.heap[gs]? = _ from KS.out) hg1 (HOWN.out _ HSN.out))
        have KO1 := Aside0.mk (blk_grown (show w.drew.heap[go]? = _ from KO.out) hg1 (HOWN.out _ HN.out))
        clear hr1 hb1 hg1 hat1
        refine hK.out _ _ ⟨(blk_cell KF1.out 1).trans HFR.out, (blk_cell KS1.out 73).trans ACA.out, (blk_cell KO1.out 0).trans rfl⟩ (fun hHeld => ?_)
        clear hK K
        refine norm_ (a' := ?_) ?_ ?_
        rotate_left
        · show Act.put _ (some 40) _ = _
          simp only [Act.put, List.setIfInBounds_toArray, List.set_cons_zero, List.set_cons_succ, i64_w, i32_w]
          rfl
        refine last_ (i := 14) (N := none) #[true, true, true, true, true, true, true, true, true, true, true, true, true, true, true] rfl rfl (by kernel_rfl) (by decide) (fun K hK => ?_)
        have zo : w1.cell? ⟨go, 0, none⟩ = some v := (blk_cell KO1.out 0).trans rfl
        have yo := blk_frozen KO1.out 0
        refine skip_ (w1 := ?_) (by rfl) rfl ?_ ?_
        rotate_left
        · go_simp
          rfl
        refine hK.out _ _ ?_
        clear hK K
        refine done_ (by kernel_rfl) ?_
        go_wp2
        refine bodyPost_end (results_list (rs := []) rfl (by simp) .nil) rfl ?_
        have hr2 := HR1.out
        rw [List.length_append, List.length_singleton] at hr2
        exact fill_end HN.out HNW.out HBG.out hr2 HB1.out KO1.out
      · skip
        have b1 : decide (ww > 0) = true := decide_eq_true c1
        have b2 : decide (hh > 0) = true := decide_eq_true c2
        have b3 : decide (bits .and .i64 col 255 > 0) = false := decide_eq_false c3
        clear c1 c2 c3
        have hs_ : seen ww hh col = false := by unfold seen; rw [b1, b2, b3]; rfl
        rw [none_ _ hs_, List.append_nil]
        clear hs_ none_
        go_enter Try.func63, Try.ntmps63
        go_wp2
        refine bodyPost_end (results_list (rs := []) rfl (by simp) .nil) rfl ?_
        exact ⟨v, rfl, KO.out, HR.out, HNW.out, fun _ _ _ => rfl, Below.refl _ _⟩
    · skip
      have b1 : decide (ww > 0) = true := decide_eq_true c1
      have b2 : decide (hh > 0) = false := decide_eq_false c2
      clear c1 c2
      have hs_ : seen ww hh col = false := by unfold seen; rw [b1, b2]; rfl
      rw [none_ _ hs_, List.append_nil]
      clear hs_ none_
      go_enter Try.func63, Try.ntmps63
      go_wp2
      refine bodyPost_end (results_list (rs := []) rfl (by simp) .nil) rfl ?_
      exact ⟨v, rfl, KO.out, HR.out, HNW.out, fun _ _ _ => rfl, Below.refl _ _⟩
  · skip
    have b1 : decide (ww > 0) = false := decide_eq_false c1
    clear c1
    have hs_ : seen ww hh col = false := by unfold seen; rw [b1]; rfl
    rw [none_ _ hs_, List.append_nil]
    clear hs_ none_
    go_enter Try.func63, Try.ntmps63
    go_wp2
    refine bodyPost_end (results_list (rs := []) rfl (by simp) .nil) rfl ?_
    exact ⟨v, rfl, KO.out, HR.out, HNW.out, fun _ _ _ => rfl, Below.refl _ _⟩
set_option maxHeartbeats 8000000 in
set_option maxRecDepth 100000 in
theorem ref_Fill_23.calls (f : Fr) (xs : List Int) (hl : xs.length = 118) (x y ww hh : Int) (gf gs go N b : Nat) (v : Value) (l : List S45) (w : World) (hN : go < N) (hNw : N ≤ w.heap.size) (hb_ : b ≤ go) (hfN : gf < N) (hsN : gs < N) (hgf : gf ≠ go) (hgs : gs ≠ go) (hlen : l.length ≤ 1000)
    (hf : w.heap[gf]? = some (.cells (frc f) 41 (0, 0))) (hs : w.heap[gs]? = some (.cells (nums .i64 xs).toArray 25 (0, 0))) (ho : w.heap[go]? = some (.cells #[v] 46 (0, 0))) (hr : Kd.R k45 45 w N (fun _ => True) v l) :
    Calls Try.prog 63 #[.int .i64 x, .int .i64 y, .int .i64 ww, .int .i64 hh, .int .i64 23, .pointer (some ⟨gs, 0, none⟩), .pointer (some ⟨go, 0, none⟩), .pointer (some ⟨gf, 0, none⟩)] w fun e w' => ∃ v', e = .returned (.tuple #[]) ∧ w'.heap[go]? = some (.cells #[v'] 46 (0, 0)) ∧ Kd.R k45 45 w' N (fun _ => True) v' (l ++ if seen ww hh (xs.getD 47 0) = true then [cmdS f.f1 x y ww hh (xs.getD 47 0)] else []) ∧ N ≤ w'.heap.size ∧ (∀ k, k < N → k ≠ go → w'.heap[k]? = w.heap[k]?) ∧ Below b w w' := by
  obtain ⟨a, ha⟩ : ∃ a, (nums .i64 xs).toArray = a := ⟨_, rfl⟩
  have AC : a[47]? = some (.int .i64 (xs.getD 47 0)) := by rw [← ha]; simp [nums, hl]
  rw [ha] at hs
  clear ha
  have KF := Aside0.mk hf
  have KS := Aside0.mk hs
  have KO := Aside0.mk ho
  have HR := Aside0.mk hr
  have hown : ∀ k, k < N → some k ≠ v.ownBlock := fun k hk e => by have := Kd.R_base hr k e.symm; omega
  have HOWN := Aside0.mk hown
  have ACA := Aside0.mk AC
  have vf : w.cell? ⟨gf, 1, none⟩ = some (.int .i64 f.f1) := (blk_cell hf 1).trans rfl
  have vs : w.cell? ⟨gs, 47, none⟩ = some (.int .i64 (xs.getD 47 0)) := (blk_cell hs 47).trans AC
  have vo : w.cell? ⟨go, 0, none⟩ = some v := (blk_cell ho 0).trans rfl
  clear hf hs ho hr AC hown
  have HN := Aside0.mk hN
  have HNW := Aside0.mk hNw
  have HBG := Aside0.mk hb_
  have HFN := Aside0.mk hfN
  have HSN := Aside0.mk hsN
  have HLEN := Aside0.mk hlen
  clear hN hNw hb_ hfN hsN hlen
  obtain ⟨node, hnode⟩ : ∃ n, f.f1 = n := ⟨_, rfl⟩
  obtain ⟨col, hcol⟩ : ∃ n, xs.getD 47 0 = n := ⟨_, rfl⟩
  rw [hnode] at vf ⊢
  rw [hcol] at vs ACA ⊢
  have HFR : Aside0 ((frc f)[1]? = some (.int .i64 node)) := ⟨by rw [← hnode]; rfl⟩
  clear hnode hcol
  have none_ : ∀ (s : Bool), s = false → (if s = true then [cmdS node x y ww hh col] else ([] : List S45)) = [] := fun s h => by rw [h]; rfl
  by_cases c1 : ww > 0
  · by_cases c2 : hh > 0
    · by_cases c3 : bits .and .i64 col 255 > 0
      · have b1 : decide (ww > 0) = true := decide_eq_true c1
        have b2 : decide (hh > 0) = true := decide_eq_true c2
        have b3 : decide (bits .and .i64 col 255 > 0) = true := decide_eq_true c3
        have hs_ : seen ww hh col = true := by unfold seen; rw [b1, b2, b3]; rfl
        rw [if_pos hs_]
        clear c1 c2 c3 hs_ none_
        go_enter Try.func63, Try.ntmps63
        go_wp2
        refine start_ (n := 15) (S := fun w' => w'.cell? ⟨gf, 1, none⟩ = some (.int .i64 node) ∧ w'.cell? ⟨gs, 47, none⟩ = some (.int .i64 col) ∧ w'.cell? ⟨go, 0, none⟩ = some v) (ds := [14]) #[false, false, false, false, false, false, false, false, false, false, false, false, false, false, false] (by kernel_rfl) rfl rfl ⟨vf, vs, vo⟩ (fun hHeld => ?_)
        refine pure_ (i := 1) (N := some 28) (v := ?_) (a' := ?_) #[false, true, false, false, false, false, false, false, false, false, false, false, false, false, false] rfl rfl (by kernel_rfl) (fun _ _ _ h => h) (Or.inl ⟨by rfl, ?_⟩) ?_ ?_
        rotate_left
        · intro w'
          go_simp
          with_reducible rfl
        rotate_left
        · simp only [Act.put, List.setIfInBounds_toArray, List.set_cons_zero, List.set_cons_succ, i64_w, i32_w]
          rfl
        refine pure_ (i := 3) (N := some 30) (v := ?_) (a' := ?_) #[false, true, false, true, false, false, false, false, false, false, false, false, false, false, false] rfl rfl (by kernel_rfl) (fun _ _ _ h => h) (Or.inl ⟨by rfl, ?_⟩) ?_ ?_
        rotate_left
        · intro w'
          go_simp
          with_reducible rfl
        rotate_left
        · simp only [Act.put, List.setIfInBounds_toArray, List.set_cons_zero, List.set_cons_succ, i64_w, i32_w]
          rfl
        refine pure_ (i := 4) (N := some 31) (v := ?_) (a' := ?_) #[false, true, false, true, true, false, false, false, false, false, false, false, false, false, false] rfl rfl (by kernel_rfl) (fun _ _ _ h => h) (Or.inl ⟨by rfl, ?_⟩) ?_ ?_
        rotate_left
        · intro w'
          go_simp
          with_reducible rfl
        rotate_left
        · simp only [Act.put, List.setIfInBounds_toArray, List.set_cons_zero, List.set_cons_succ, i64_w, i32_w]
          rfl
        refine pure_ (i := 5) (N := some 32) (v := ?_) (a' := ?_) #[false, true, false, true, true, true, false, false, false, false, false, false, false, false, false] rfl rfl (by kernel_rfl) (fun _ _ _ h => h) (Or.inl ⟨by rfl, ?_⟩) ?_ ?_
        rotate_left
        · intro w'
          go_simp
          with_reducible rfl
        rotate_left
        · simp only [Act.put, List.setIfInBounds_toArray, List.set_cons_zero, List.set_cons_succ, i64_w, i32_w]
          rfl
        refine pure_ (i := 6) (N := some 33) (v := ?_) (a' := ?_) #[false, true, false, true, true, true, true, false, false, false, false, false, false, false, false] rfl rfl (by kernel_rfl) (fun _ _ _ h => h) (Or.inl ⟨by rfl, ?_⟩) ?_ ?_
        rotate_left
        · intro w'
          go_simp
          with_reducible rfl
        rotate_left
        · simp only [Act.put, List.setIfInBounds_toArray, List.set_cons_zero, List.set_cons_succ, i64_w, i32_w]
          rfl
        refine pure_ (i := 7) (N := some 34) (v := ?_) (a' := ?_) #[false, true, false, true, true, true, true, true, false, false, false, false, false, false, false] rfl rfl (by kernel_rfl) (fun _ _ _ h => h) (Or.inl ⟨by rfl, ?_⟩) ?_ ?_
        rotate_left
        · intro w'
          go_simp
          with_reducible rfl
        rotate_left
        · simp only [Act.put, List.setIfInBounds_toArray, List.set_cons_zero, List.set_cons_succ, i64_w, i32_w]
          rfl
        refine pure_ (i := 8) (N := some 35) (v := ?_) (a' := ?_) #[false, true, false, true, true, true, true, true, true, false, false, false, false, false, false] rfl rfl (by kernel_rfl) (fun _ _ _ h => h) (Or.inl ⟨by rfl, ?_⟩) ?_ ?_
        rotate_left
        · intro w'
          go_simp
          with_reducible rfl
        rotate_left
        · simp only [Act.put, List.setIfInBounds_toArray, List.set_cons_zero, List.set_cons_succ, i64_w, i32_w]
          rfl
        refine pure_ (i := 9) (N := some 36) (v := ?_) (a' := ?_) #[false, true, false, true, true, true, true, true, true, true, false, false, false, false, false] rfl rfl (by kernel_rfl) (fun _ _ _ h => h) (Or.inl ⟨by rfl, ?_⟩) ?_ ?_
        rotate_left
        · intro w'
          go_simp
          with_reducible rfl
        rotate_left
        · simp only [Act.put, List.setIfInBounds_toArray, List.set_cons_zero, List.set_cons_succ, i64_w, i32_w]
          rfl
        refine take_ (i := 0) (N := some 27) (v := ?_) (a' := ?_) #[true, true, false, true, true, true, true, true, true, true, false, false, false, false, false] rfl rfl (by kernel_rfl) (fun _ _ _ h => h) (Or.inl ⟨by rfl, ?_⟩) hHeld ?_ ?_
        rotate_left
        · rintro w' ⟨s0, s1, s2⟩
          go_simp
          with_reducible rfl
        rotate_left
        · simp only [Act.put, List.setIfInBounds_toArray, List.set_cons_zero, List.set_cons_succ, i64_w, i32_w]
          rfl
        refine take_ (i := 2) (N := some 29) (v := ?_) (a' := ?_) #[true, true, true, true, true, true, true, true, true, true, false, false, false, false, false] rfl rfl (by kernel_rfl) (fun _ _ _ h => h) (Or.inl ⟨by rfl, ?_⟩) hHeld ?_ ?_
        rotate_left
        · rintro w' ⟨s0, s1, s2⟩
          go_simp
          with_reducible rfl
        rotate_left
        · simp only [Act.put, List.setIfInBounds_toArray, List.set_cons_zero, List.set_cons_succ, i64_w, i32_w]
          rfl
        refine take_ (i := 10) (N := some 37) (v := ?_) (a' := ?_) #[true, true, true, true, true, true, true, true, true, true, true, false, false, false, false] rfl rfl (by kernel_rfl) (fun _ _ _ h => h) (Or.inl ⟨by rfl, ?_⟩) hHeld ?_ ?_
        rotate_left
        · rintro w' ⟨s0, s1, s2⟩
          go_simp
          with_reducible rfl
        rotate_left
        · simp only [Act.put, List.setIfInBounds_toArray, List.set_cons_zero, List.set_cons_succ, i64_w, i32_w]
          rfl
        refine pure_ (i := 11) (N := some 38) (v := ?_) (a' := ?_) #[true, true, true, true, true, true, true, true, true, true, true, true, false, false, false] rfl rfl (by kernel_rfl) (fun _ _ _ h => h) (Or.inl ⟨by rfl, ?_⟩) ?_ ?_
        rotate_left
        · intro w'
          go_simp
          with_reducible rfl
        rotate_left
        · simp only [Act.put, List.setIfInBounds_toArray, List.set_cons_zero, List.set_cons_succ, i64_w, i32_w]
          rfl
        refine one_ (i := 12) (N := some 39) #[true, true, true, true, true, true, true, true, true, true, true, true, true, false, false] rfl rfl (by kernel_rfl) (by decide) (fun K hK => ?_)
        refine value_ (w1 := ?_) (v := ?_) (by rfl) rfl ?_ ?_
        rotate_left 2
        · go_simp
          constructor
          · rfl
          · rfl
        refine hK.out _ _ ⟨(blk_cell (blk_alloc (show w.drew.heap[gf]? = _ from KF.out) _) 1).trans HFR.out, (blk_cell (blk_alloc (show w.drew.heap[gs]? = _ from KS.out) _) 47).trans ACA.out, (blk_cell (blk_alloc (show w.drew.heap[go]? = _ from KO.out) _) 0).trans rfl⟩ (fun hHeld => ?_)
        clear hK K
        refine norm_ (a' := ?_) ?_ ?_
        rotate_left
        · show Act.put _ (some 39) _ = _
          simp only [Act.put, List.setIfInBounds_toArray, List.set_cons_zero, List.set_cons_succ, i64_w, i32_w]
          rfl
        refine one_ (i := 13) (N := some 40) #[true, true, true, true, true, true, true, true, true, true, true, true, true, true, false] rfl rfl (by kernel_rfl) (by decide) (fun K hK => ?_)
        rw [show ∀ o, (w.alloc o).drew = w.drew.alloc o from fun _ => rfl]
        refine Kd.R_append_step k45 (w0 := w) N (by rfl) (.tmp 27) (.tmp 39) 46 45 (.agg #[(.int .i64 0), (.int .i64 0), (.int .i64 0), (.int .i64 0), (.int .i64 0), (.int .i64 0), (.int .i64 0), (.int .i64 0), (.string ⟨#[]⟩)]) 80 rfl Try.underlying46 info45 rfl (by decide) (by omega) v l (cmdS node x y ww hh col) [.int .i64 1, .int .i64 node, .int .i64 x, .int .i64 y, .int .i64 ww, .int .i64 hh, .int .i64 col, .int .i64 0, .string ⟨#[]⟩] (fun _ => True) (fun _ => False) rfl rfl ?aP (fun _ hk => hk.elim) ?aF ?aO ?aB ?aS ?aL ?_
        (case aP => exact k45_mkM _ _ _ (cmdS node x y ww hh col))
        (case aF => exact fun _ _ => trivial)
        (case aO => exact Kd.R_drew HR.out)
        (case aB => exact below_drew1 (Below.refl _ _))
        (case aS => exact HNW.out)
        (case aL => have := HLEN.out; omega)
        intro v1 w1 hr1 hb1 hg1 hat1
        obtain ⟨A1, q1, rfl, _, _⟩ := Kd.R_reads hr1
        have HR1 := Aside0.mk hr1
        have HB1 := Aside0.mk hb1
        have KF1 := Aside0.mk (blk_grown (show w.drew.heap[gf]? = _ from KF.out) hg1 (HOWN.out _ HFN.out))
        have KS1 := Aside0.mk (blk_grown (show w.drew.heap[gs]? = _ from KS.out) hg1 (HOWN.out _ HSN.out))
        have KO1 := Aside0.mk (blk_grown (show w.drew.heap[go]? = _ from KO.out) hg1 (HOWN.out _ HN.out))
        clear hr1 hb1 hg1 hat1
        refine hK.out _ _ ⟨(blk_cell KF1.out 1).trans HFR.out, (blk_cell KS1.out 47).trans ACA.out, (blk_cell KO1.out 0).trans rfl⟩ (fun hHeld => ?_)
        clear hK K
        refine norm_ (a' := ?_) ?_ ?_
        rotate_left
        · show Act.put _ (some 40) _ = _
          simp only [Act.put, List.setIfInBounds_toArray, List.set_cons_zero, List.set_cons_succ, i64_w, i32_w]
          rfl
        refine last_ (i := 14) (N := none) #[true, true, true, true, true, true, true, true, true, true, true, true, true, true, true] rfl rfl (by kernel_rfl) (by decide) (fun K hK => ?_)
        have zo : w1.cell? ⟨go, 0, none⟩ = some v := (blk_cell KO1.out 0).trans rfl
        have yo := blk_frozen KO1.out 0
        refine skip_ (w1 := ?_) (by rfl) rfl ?_ ?_
        rotate_left
        · go_simp
          rfl
        refine hK.out _ _ ?_
        clear hK K
        refine done_ (by kernel_rfl) ?_
        go_wp2
        refine bodyPost_end (results_list (rs := []) rfl (by simp) .nil) rfl ?_
        have hr2 := HR1.out
        rw [List.length_append, List.length_singleton] at hr2
        exact fill_end HN.out HNW.out HBG.out hr2 HB1.out KO1.out
      · skip
        have b1 : decide (ww > 0) = true := decide_eq_true c1
        have b2 : decide (hh > 0) = true := decide_eq_true c2
        have b3 : decide (bits .and .i64 col 255 > 0) = false := decide_eq_false c3
        clear c1 c2 c3
        have hs_ : seen ww hh col = false := by unfold seen; rw [b1, b2, b3]; rfl
        rw [none_ _ hs_, List.append_nil]
        clear hs_ none_
        go_enter Try.func63, Try.ntmps63
        go_wp2
        refine bodyPost_end (results_list (rs := []) rfl (by simp) .nil) rfl ?_
        exact ⟨v, rfl, KO.out, HR.out, HNW.out, fun _ _ _ => rfl, Below.refl _ _⟩
    · skip
      have b1 : decide (ww > 0) = true := decide_eq_true c1
      have b2 : decide (hh > 0) = false := decide_eq_false c2
      clear c1 c2
      have hs_ : seen ww hh col = false := by unfold seen; rw [b1, b2]; rfl
      rw [none_ _ hs_, List.append_nil]
      clear hs_ none_
      go_enter Try.func63, Try.ntmps63
      go_wp2
      refine bodyPost_end (results_list (rs := []) rfl (by simp) .nil) rfl ?_
      exact ⟨v, rfl, KO.out, HR.out, HNW.out, fun _ _ _ => rfl, Below.refl _ _⟩
  · skip
    have b1 : decide (ww > 0) = false := decide_eq_false c1
    clear c1
    have hs_ : seen ww hh col = false := by unfold seen; rw [b1]; rfl
    rw [none_ _ hs_, List.append_nil]
    clear hs_ none_
    go_enter Try.func63, Try.ntmps63
    go_wp2
    refine bodyPost_end (results_list (rs := []) rfl (by simp) .nil) rfl ?_
    exact ⟨v, rfl, KO.out, HR.out, HNW.out, fun _ _ _ => rfl, Below.refl _ _⟩
set_option maxHeartbeats 8000000 in
set_option maxRecDepth 100000 in
theorem ref_Fill_24.calls (f : Fr) (xs : List Int) (hl : xs.length = 118) (x y ww hh : Int) (gf gs go N b : Nat) (v : Value) (l : List S45) (w : World) (hN : go < N) (hNw : N ≤ w.heap.size) (hb_ : b ≤ go) (hfN : gf < N) (hsN : gs < N) (hgf : gf ≠ go) (hgs : gs ≠ go) (hlen : l.length ≤ 1000)
    (hf : w.heap[gf]? = some (.cells (frc f) 41 (0, 0))) (hs : w.heap[gs]? = some (.cells (nums .i64 xs).toArray 25 (0, 0))) (ho : w.heap[go]? = some (.cells #[v] 46 (0, 0))) (hr : Kd.R k45 45 w N (fun _ => True) v l) :
    Calls Try.prog 63 #[.int .i64 x, .int .i64 y, .int .i64 ww, .int .i64 hh, .int .i64 24, .pointer (some ⟨gs, 0, none⟩), .pointer (some ⟨go, 0, none⟩), .pointer (some ⟨gf, 0, none⟩)] w fun e w' => ∃ v', e = .returned (.tuple #[]) ∧ w'.heap[go]? = some (.cells #[v'] 46 (0, 0)) ∧ Kd.R k45 45 w' N (fun _ => True) v' (l ++ if seen ww hh (xs.getD 49 0) = true then [cmdS f.f1 x y ww hh (xs.getD 49 0)] else []) ∧ N ≤ w'.heap.size ∧ (∀ k, k < N → k ≠ go → w'.heap[k]? = w.heap[k]?) ∧ Below b w w' := by
  obtain ⟨a, ha⟩ : ∃ a, (nums .i64 xs).toArray = a := ⟨_, rfl⟩
  have AC : a[49]? = some (.int .i64 (xs.getD 49 0)) := by rw [← ha]; simp [nums, hl]
  rw [ha] at hs
  clear ha
  have KF := Aside0.mk hf
  have KS := Aside0.mk hs
  have KO := Aside0.mk ho
  have HR := Aside0.mk hr
  have hown : ∀ k, k < N → some k ≠ v.ownBlock := fun k hk e => by have := Kd.R_base hr k e.symm; omega
  have HOWN := Aside0.mk hown
  have ACA := Aside0.mk AC
  have vf : w.cell? ⟨gf, 1, none⟩ = some (.int .i64 f.f1) := (blk_cell hf 1).trans rfl
  have vs : w.cell? ⟨gs, 49, none⟩ = some (.int .i64 (xs.getD 49 0)) := (blk_cell hs 49).trans AC
  have vo : w.cell? ⟨go, 0, none⟩ = some v := (blk_cell ho 0).trans rfl
  clear hf hs ho hr AC hown
  have HN := Aside0.mk hN
  have HNW := Aside0.mk hNw
  have HBG := Aside0.mk hb_
  have HFN := Aside0.mk hfN
  have HSN := Aside0.mk hsN
  have HLEN := Aside0.mk hlen
  clear hN hNw hb_ hfN hsN hlen
  obtain ⟨node, hnode⟩ : ∃ n, f.f1 = n := ⟨_, rfl⟩
  obtain ⟨col, hcol⟩ : ∃ n, xs.getD 49 0 = n := ⟨_, rfl⟩
  rw [hnode] at vf ⊢
  rw [hcol] at vs ACA ⊢
  have HFR : Aside0 ((frc f)[1]? = some (.int .i64 node)) := ⟨by rw [← hnode]; rfl⟩
  clear hnode hcol
  have none_ : ∀ (s : Bool), s = false → (if s = true then [cmdS node x y ww hh col] else ([] : List S45)) = [] := fun s h => by rw [h]; rfl
  by_cases c1 : ww > 0
  · by_cases c2 : hh > 0
    · by_cases c3 : bits .and .i64 col 255 > 0
      · have b1 : decide (ww > 0) = true := decide_eq_true c1
        have b2 : decide (hh > 0) = true := decide_eq_true c2
        have b3 : decide (bits .and .i64 col 255 > 0) = true := decide_eq_true c3
        have hs_ : seen ww hh col = true := by unfold seen; rw [b1, b2, b3]; rfl
        rw [if_pos hs_]
        clear c1 c2 c3 hs_ none_
        go_enter Try.func63, Try.ntmps63
        go_wp2
        refine start_ (n := 15) (S := fun w' => w'.cell? ⟨gf, 1, none⟩ = some (.int .i64 node) ∧ w'.cell? ⟨gs, 49, none⟩ = some (.int .i64 col) ∧ w'.cell? ⟨go, 0, none⟩ = some v) (ds := [14]) #[false, false, false, false, false, false, false, false, false, false, false, false, false, false, false] (by kernel_rfl) rfl rfl ⟨vf, vs, vo⟩ (fun hHeld => ?_)
        refine pure_ (i := 1) (N := some 28) (v := ?_) (a' := ?_) #[false, true, false, false, false, false, false, false, false, false, false, false, false, false, false] rfl rfl (by kernel_rfl) (fun _ _ _ h => h) (Or.inl ⟨by rfl, ?_⟩) ?_ ?_
        rotate_left
        · intro w'
          go_simp
          with_reducible rfl
        rotate_left
        · simp only [Act.put, List.setIfInBounds_toArray, List.set_cons_zero, List.set_cons_succ, i64_w, i32_w]
          rfl
        refine pure_ (i := 3) (N := some 30) (v := ?_) (a' := ?_) #[false, true, false, true, false, false, false, false, false, false, false, false, false, false, false] rfl rfl (by kernel_rfl) (fun _ _ _ h => h) (Or.inl ⟨by rfl, ?_⟩) ?_ ?_
        rotate_left
        · intro w'
          go_simp
          with_reducible rfl
        rotate_left
        · simp only [Act.put, List.setIfInBounds_toArray, List.set_cons_zero, List.set_cons_succ, i64_w, i32_w]
          rfl
        refine pure_ (i := 4) (N := some 31) (v := ?_) (a' := ?_) #[false, true, false, true, true, false, false, false, false, false, false, false, false, false, false] rfl rfl (by kernel_rfl) (fun _ _ _ h => h) (Or.inl ⟨by rfl, ?_⟩) ?_ ?_
        rotate_left
        · intro w'
          go_simp
          with_reducible rfl
        rotate_left
        · simp only [Act.put, List.setIfInBounds_toArray, List.set_cons_zero, List.set_cons_succ, i64_w, i32_w]
          rfl
        refine pure_ (i := 5) (N := some 32) (v := ?_) (a' := ?_) #[false, true, false, true, true, true, false, false, false, false, false, false, false, false, false] rfl rfl (by kernel_rfl) (fun _ _ _ h => h) (Or.inl ⟨by rfl, ?_⟩) ?_ ?_
        rotate_left
        · intro w'
          go_simp
          with_reducible rfl
        rotate_left
        · simp only [Act.put, List.setIfInBounds_toArray, List.set_cons_zero, List.set_cons_succ, i64_w, i32_w]
          rfl
        refine pure_ (i := 6) (N := some 33) (v := ?_) (a' := ?_) #[false, true, false, true, true, true, true, false, false, false, false, false, false, false, false] rfl rfl (by kernel_rfl) (fun _ _ _ h => h) (Or.inl ⟨by rfl, ?_⟩) ?_ ?_
        rotate_left
        · intro w'
          go_simp
          with_reducible rfl
        rotate_left
        · simp only [Act.put, List.setIfInBounds_toArray, List.set_cons_zero, List.set_cons_succ, i64_w, i32_w]
          rfl
        refine pure_ (i := 7) (N := some 34) (v := ?_) (a' := ?_) #[false, true, false, true, true, true, true, true, false, false, false, false, false, false, false] rfl rfl (by kernel_rfl) (fun _ _ _ h => h) (Or.inl ⟨by rfl, ?_⟩) ?_ ?_
        rotate_left
        · intro w'
          go_simp
          with_reducible rfl
        rotate_left
        · simp only [Act.put, List.setIfInBounds_toArray, List.set_cons_zero, List.set_cons_succ, i64_w, i32_w]
          rfl
        refine pure_ (i := 8) (N := some 35) (v := ?_) (a' := ?_) #[false, true, false, true, true, true, true, true, true, false, false, false, false, false, false] rfl rfl (by kernel_rfl) (fun _ _ _ h => h) (Or.inl ⟨by rfl, ?_⟩) ?_ ?_
        rotate_left
        · intro w'
          go_simp
          with_reducible rfl
        rotate_left
        · simp only [Act.put, List.setIfInBounds_toArray, List.set_cons_zero, List.set_cons_succ, i64_w, i32_w]
          rfl
        refine pure_ (i := 9) (N := some 36) (v := ?_) (a' := ?_) #[false, true, false, true, true, true, true, true, true, true, false, false, false, false, false] rfl rfl (by kernel_rfl) (fun _ _ _ h => h) (Or.inl ⟨by rfl, ?_⟩) ?_ ?_
        rotate_left
        · intro w'
          go_simp
          with_reducible rfl
        rotate_left
        · simp only [Act.put, List.setIfInBounds_toArray, List.set_cons_zero, List.set_cons_succ, i64_w, i32_w]
          rfl
        refine take_ (i := 0) (N := some 27) (v := ?_) (a' := ?_) #[true, true, false, true, true, true, true, true, true, true, false, false, false, false, false] rfl rfl (by kernel_rfl) (fun _ _ _ h => h) (Or.inl ⟨by rfl, ?_⟩) hHeld ?_ ?_
        rotate_left
        · rintro w' ⟨s0, s1, s2⟩
          go_simp
          with_reducible rfl
        rotate_left
        · simp only [Act.put, List.setIfInBounds_toArray, List.set_cons_zero, List.set_cons_succ, i64_w, i32_w]
          rfl
        refine take_ (i := 2) (N := some 29) (v := ?_) (a' := ?_) #[true, true, true, true, true, true, true, true, true, true, false, false, false, false, false] rfl rfl (by kernel_rfl) (fun _ _ _ h => h) (Or.inl ⟨by rfl, ?_⟩) hHeld ?_ ?_
        rotate_left
        · rintro w' ⟨s0, s1, s2⟩
          go_simp
          with_reducible rfl
        rotate_left
        · simp only [Act.put, List.setIfInBounds_toArray, List.set_cons_zero, List.set_cons_succ, i64_w, i32_w]
          rfl
        refine take_ (i := 10) (N := some 37) (v := ?_) (a' := ?_) #[true, true, true, true, true, true, true, true, true, true, true, false, false, false, false] rfl rfl (by kernel_rfl) (fun _ _ _ h => h) (Or.inl ⟨by rfl, ?_⟩) hHeld ?_ ?_
        rotate_left
        · rintro w' ⟨s0, s1, s2⟩
          go_simp
          with_reducible rfl
        rotate_left
        · simp only [Act.put, List.setIfInBounds_toArray, List.set_cons_zero, List.set_cons_succ, i64_w, i32_w]
          rfl
        refine pure_ (i := 11) (N := some 38) (v := ?_) (a' := ?_) #[true, true, true, true, true, true, true, true, true, true, true, true, false, false, false] rfl rfl (by kernel_rfl) (fun _ _ _ h => h) (Or.inl ⟨by rfl, ?_⟩) ?_ ?_
        rotate_left
        · intro w'
          go_simp
          with_reducible rfl
        rotate_left
        · simp only [Act.put, List.setIfInBounds_toArray, List.set_cons_zero, List.set_cons_succ, i64_w, i32_w]
          rfl
        refine one_ (i := 12) (N := some 39) #[true, true, true, true, true, true, true, true, true, true, true, true, true, false, false] rfl rfl (by kernel_rfl) (by decide) (fun K hK => ?_)
        refine value_ (w1 := ?_) (v := ?_) (by rfl) rfl ?_ ?_
        rotate_left 2
        · go_simp
          constructor
          · rfl
          · rfl
        refine hK.out _ _ ⟨(blk_cell (blk_alloc (show w.drew.heap[gf]? = _ from KF.out) _) 1).trans HFR.out, (blk_cell (blk_alloc (show w.drew.heap[gs]? = _ from KS.out) _) 49).trans ACA.out, (blk_cell (blk_alloc (show w.drew.heap[go]? = _ from KO.out) _) 0).trans rfl⟩ (fun hHeld => ?_)
        clear hK K
        refine norm_ (a' := ?_) ?_ ?_
        rotate_left
        · show Act.put _ (some 39) _ = _
          simp only [Act.put, List.setIfInBounds_toArray, List.set_cons_zero, List.set_cons_succ, i64_w, i32_w]
          rfl
        refine one_ (i := 13) (N := some 40) #[true, true, true, true, true, true, true, true, true, true, true, true, true, true, false] rfl rfl (by kernel_rfl) (by decide) (fun K hK => ?_)
        rw [show ∀ o, (w.alloc o).drew = w.drew.alloc o from fun _ => rfl]
        refine Kd.R_append_step k45 (w0 := w) N (by rfl) (.tmp 27) (.tmp 39) 46 45 (.agg #[(.int .i64 0), (.int .i64 0), (.int .i64 0), (.int .i64 0), (.int .i64 0), (.int .i64 0), (.int .i64 0), (.int .i64 0), (.string ⟨#[]⟩)]) 80 rfl Try.underlying46 info45 rfl (by decide) (by omega) v l (cmdS node x y ww hh col) [.int .i64 1, .int .i64 node, .int .i64 x, .int .i64 y, .int .i64 ww, .int .i64 hh, .int .i64 col, .int .i64 0, .string ⟨#[]⟩] (fun _ => True) (fun _ => False) rfl rfl ?aP (fun _ hk => hk.elim) ?aF ?aO ?aB ?aS ?aL ?_
        (case aP => exact k45_mkM _ _ _ (cmdS node x y ww hh col))
        (case aF => exact fun _ _ => trivial)
        (case aO => exact Kd.R_drew HR.out)
        (case aB => exact below_drew1 (Below.refl _ _))
        (case aS => exact HNW.out)
        (case aL => have := HLEN.out; omega)
        intro v1 w1 hr1 hb1 hg1 hat1
        obtain ⟨A1, q1, rfl, _, _⟩ := Kd.R_reads hr1
        have HR1 := Aside0.mk hr1
        have HB1 := Aside0.mk hb1
        have KF1 := Aside0.mk (blk_grown (show w.drew.heap[gf]? = _ from KF.out) hg1 (HOWN.out _ HFN.out))
        have KS1 := Aside0.mk (blk_grown (show w.drew.heap[gs]? = _ from KS.out) hg1 (HOWN.out _ HSN.out))
        have KO1 := Aside0.mk (blk_grown (show w.drew.heap[go]? = _ from KO.out) hg1 (HOWN.out _ HN.out))
        clear hr1 hb1 hg1 hat1
        refine hK.out _ _ ⟨(blk_cell KF1.out 1).trans HFR.out, (blk_cell KS1.out 49).trans ACA.out, (blk_cell KO1.out 0).trans rfl⟩ (fun hHeld => ?_)
        clear hK K
        refine norm_ (a' := ?_) ?_ ?_
        rotate_left
        · show Act.put _ (some 40) _ = _
          simp only [Act.put, List.setIfInBounds_toArray, List.set_cons_zero, List.set_cons_succ, i64_w, i32_w]
          rfl
        refine last_ (i := 14) (N := none) #[true, true, true, true, true, true, true, true, true, true, true, true, true, true, true] rfl rfl (by kernel_rfl) (by decide) (fun K hK => ?_)
        have zo : w1.cell? ⟨go, 0, none⟩ = some v := (blk_cell KO1.out 0).trans rfl
        have yo := blk_frozen KO1.out 0
        refine skip_ (w1 := ?_) (by rfl) rfl ?_ ?_
        rotate_left
        · go_simp
          rfl
        refine hK.out _ _ ?_
        clear hK K
        refine done_ (by kernel_rfl) ?_
        go_wp2
        refine bodyPost_end (results_list (rs := []) rfl (by simp) .nil) rfl ?_
        have hr2 := HR1.out
        rw [List.length_append, List.length_singleton] at hr2
        exact fill_end HN.out HNW.out HBG.out hr2 HB1.out KO1.out
      · skip
        have b1 : decide (ww > 0) = true := decide_eq_true c1
        have b2 : decide (hh > 0) = true := decide_eq_true c2
        have b3 : decide (bits .and .i64 col 255 > 0) = false := decide_eq_false c3
        clear c1 c2 c3
        have hs_ : seen ww hh col = false := by unfold seen; rw [b1, b2, b3]; rfl
        rw [none_ _ hs_, List.append_nil]
        clear hs_ none_
        go_enter Try.func63, Try.ntmps63
        go_wp2
        refine bodyPost_end (results_list (rs := []) rfl (by simp) .nil) rfl ?_
        exact ⟨v, rfl, KO.out, HR.out, HNW.out, fun _ _ _ => rfl, Below.refl _ _⟩
    · skip
      have b1 : decide (ww > 0) = true := decide_eq_true c1
      have b2 : decide (hh > 0) = false := decide_eq_false c2
      clear c1 c2
      have hs_ : seen ww hh col = false := by unfold seen; rw [b1, b2]; rfl
      rw [none_ _ hs_, List.append_nil]
      clear hs_ none_
      go_enter Try.func63, Try.ntmps63
      go_wp2
      refine bodyPost_end (results_list (rs := []) rfl (by simp) .nil) rfl ?_
      exact ⟨v, rfl, KO.out, HR.out, HNW.out, fun _ _ _ => rfl, Below.refl _ _⟩
  · skip
    have b1 : decide (ww > 0) = false := decide_eq_false c1
    clear c1
    have hs_ : seen ww hh col = false := by unfold seen; rw [b1]; rfl
    rw [none_ _ hs_, List.append_nil]
    clear hs_ none_
    go_enter Try.func63, Try.ntmps63
    go_wp2
    refine bodyPost_end (results_list (rs := []) rfl (by simp) .nil) rfl ?_
    exact ⟨v, rfl, KO.out, HR.out, HNW.out, fun _ _ _ => rfl, Below.refl _ _⟩
set_option maxHeartbeats 8000000 in
set_option maxRecDepth 100000 in
theorem ref_Fill_25.calls (f : Fr) (xs : List Int) (hl : xs.length = 118) (x y ww hh : Int) (gf gs go N b : Nat) (v : Value) (l : List S45) (w : World) (hN : go < N) (hNw : N ≤ w.heap.size) (hb_ : b ≤ go) (hfN : gf < N) (hsN : gs < N) (hgf : gf ≠ go) (hgs : gs ≠ go) (hlen : l.length ≤ 1000)
    (hf : w.heap[gf]? = some (.cells (frc f) 41 (0, 0))) (hs : w.heap[gs]? = some (.cells (nums .i64 xs).toArray 25 (0, 0))) (ho : w.heap[go]? = some (.cells #[v] 46 (0, 0))) (hr : Kd.R k45 45 w N (fun _ => True) v l) :
    Calls Try.prog 63 #[.int .i64 x, .int .i64 y, .int .i64 ww, .int .i64 hh, .int .i64 25, .pointer (some ⟨gs, 0, none⟩), .pointer (some ⟨go, 0, none⟩), .pointer (some ⟨gf, 0, none⟩)] w fun e w' => ∃ v', e = .returned (.tuple #[]) ∧ w'.heap[go]? = some (.cells #[v'] 46 (0, 0)) ∧ Kd.R k45 45 w' N (fun _ => True) v' (l ++ if seen ww hh (xs.getD 51 0) = true then [cmdS f.f1 x y ww hh (xs.getD 51 0)] else []) ∧ N ≤ w'.heap.size ∧ (∀ k, k < N → k ≠ go → w'.heap[k]? = w.heap[k]?) ∧ Below b w w' := by
  obtain ⟨a, ha⟩ : ∃ a, (nums .i64 xs).toArray = a := ⟨_, rfl⟩
  have AC : a[51]? = some (.int .i64 (xs.getD 51 0)) := by rw [← ha]; simp [nums, hl]
  rw [ha] at hs
  clear ha
  have KF := Aside0.mk hf
  have KS := Aside0.mk hs
  have KO := Aside0.mk ho
  have HR := Aside0.mk hr
  have hown : ∀ k, k < N → some k ≠ v.ownBlock := fun k hk e => by have := Kd.R_base hr k e.symm; omega
  have HOWN := Aside0.mk hown
  have ACA := Aside0.mk AC
  have vf : w.cell? ⟨gf, 1, none⟩ = some (.int .i64 f.f1) := (blk_cell hf 1).trans rfl
  have vs : w.cell? ⟨gs, 51, none⟩ = some (.int .i64 (xs.getD 51 0)) := (blk_cell hs 51).trans AC
  have vo : w.cell? ⟨go, 0, none⟩ = some v := (blk_cell ho 0).trans rfl
  clear hf hs ho hr AC hown
  have HN := Aside0.mk hN
  have HNW := Aside0.mk hNw
  have HBG := Aside0.mk hb_
  have HFN := Aside0.mk hfN
  have HSN := Aside0.mk hsN
  have HLEN := Aside0.mk hlen
  clear hN hNw hb_ hfN hsN hlen
  obtain ⟨node, hnode⟩ : ∃ n, f.f1 = n := ⟨_, rfl⟩
  obtain ⟨col, hcol⟩ : ∃ n, xs.getD 51 0 = n := ⟨_, rfl⟩
  rw [hnode] at vf ⊢
  rw [hcol] at vs ACA ⊢
  have HFR : Aside0 ((frc f)[1]? = some (.int .i64 node)) := ⟨by rw [← hnode]; rfl⟩
  clear hnode hcol
  have none_ : ∀ (s : Bool), s = false → (if s = true then [cmdS node x y ww hh col] else ([] : List S45)) = [] := fun s h => by rw [h]; rfl
  by_cases c1 : ww > 0
  · by_cases c2 : hh > 0
    · by_cases c3 : bits .and .i64 col 255 > 0
      · have b1 : decide (ww > 0) = true := decide_eq_true c1
        have b2 : decide (hh > 0) = true := decide_eq_true c2
        have b3 : decide (bits .and .i64 col 255 > 0) = true := decide_eq_true c3
        have hs_ : seen ww hh col = true := by unfold seen; rw [b1, b2, b3]; rfl
        rw [if_pos hs_]
        clear c1 c2 c3 hs_ none_
        go_enter Try.func63, Try.ntmps63
        go_wp2
        refine start_ (n := 15) (S := fun w' => w'.cell? ⟨gf, 1, none⟩ = some (.int .i64 node) ∧ w'.cell? ⟨gs, 51, none⟩ = some (.int .i64 col) ∧ w'.cell? ⟨go, 0, none⟩ = some v) (ds := [14]) #[false, false, false, false, false, false, false, false, false, false, false, false, false, false, false] (by kernel_rfl) rfl rfl ⟨vf, vs, vo⟩ (fun hHeld => ?_)
        refine pure_ (i := 1) (N := some 28) (v := ?_) (a' := ?_) #[false, true, false, false, false, false, false, false, false, false, false, false, false, false, false] rfl rfl (by kernel_rfl) (fun _ _ _ h => h) (Or.inl ⟨by rfl, ?_⟩) ?_ ?_
        rotate_left
        · intro w'
          go_simp
          with_reducible rfl
        rotate_left
        · simp only [Act.put, List.setIfInBounds_toArray, List.set_cons_zero, List.set_cons_succ, i64_w, i32_w]
          rfl
        refine pure_ (i := 3) (N := some 30) (v := ?_) (a' := ?_) #[false, true, false, true, false, false, false, false, false, false, false, false, false, false, false] rfl rfl (by kernel_rfl) (fun _ _ _ h => h) (Or.inl ⟨by rfl, ?_⟩) ?_ ?_
        rotate_left
        · intro w'
          go_simp
          with_reducible rfl
        rotate_left
        · simp only [Act.put, List.setIfInBounds_toArray, List.set_cons_zero, List.set_cons_succ, i64_w, i32_w]
          rfl
        refine pure_ (i := 4) (N := some 31) (v := ?_) (a' := ?_) #[false, true, false, true, true, false, false, false, false, false, false, false, false, false, false] rfl rfl (by kernel_rfl) (fun _ _ _ h => h) (Or.inl ⟨by rfl, ?_⟩) ?_ ?_
        rotate_left
        · intro w'
          go_simp
          with_reducible rfl
        rotate_left
        · simp only [Act.put, List.setIfInBounds_toArray, List.set_cons_zero, List.set_cons_succ, i64_w, i32_w]
          rfl
        refine pure_ (i := 5) (N := some 32) (v := ?_) (a' := ?_) #[false, true, false, true, true, true, false, false, false, false, false, false, false, false, false] rfl rfl (by kernel_rfl) (fun _ _ _ h => h) (Or.inl ⟨by rfl, ?_⟩) ?_ ?_
        rotate_left
        · intro w'
          go_simp
          with_reducible rfl
        rotate_left
        · simp only [Act.put, List.setIfInBounds_toArray, List.set_cons_zero, List.set_cons_succ, i64_w, i32_w]
          rfl
        refine pure_ (i := 6) (N := some 33) (v := ?_) (a' := ?_) #[false, true, false, true, true, true, true, false, false, false, false, false, false, false, false] rfl rfl (by kernel_rfl) (fun _ _ _ h => h) (Or.inl ⟨by rfl, ?_⟩) ?_ ?_
        rotate_left
        · intro w'
          go_simp
          with_reducible rfl
        rotate_left
        · simp only [Act.put, List.setIfInBounds_toArray, List.set_cons_zero, List.set_cons_succ, i64_w, i32_w]
          rfl
        refine pure_ (i := 7) (N := some 34) (v := ?_) (a' := ?_) #[false, true, false, true, true, true, true, true, false, false, false, false, false, false, false] rfl rfl (by kernel_rfl) (fun _ _ _ h => h) (Or.inl ⟨by rfl, ?_⟩) ?_ ?_
        rotate_left
        · intro w'
          go_simp
          with_reducible rfl
        rotate_left
        · simp only [Act.put, List.setIfInBounds_toArray, List.set_cons_zero, List.set_cons_succ, i64_w, i32_w]
          rfl
        refine pure_ (i := 8) (N := some 35) (v := ?_) (a' := ?_) #[false, true, false, true, true, true, true, true, true, false, false, false, false, false, false] rfl rfl (by kernel_rfl) (fun _ _ _ h => h) (Or.inl ⟨by rfl, ?_⟩) ?_ ?_
        rotate_left
        · intro w'
          go_simp
          with_reducible rfl
        rotate_left
        · simp only [Act.put, List.setIfInBounds_toArray, List.set_cons_zero, List.set_cons_succ, i64_w, i32_w]
          rfl
        refine pure_ (i := 9) (N := some 36) (v := ?_) (a' := ?_) #[false, true, false, true, true, true, true, true, true, true, false, false, false, false, false] rfl rfl (by kernel_rfl) (fun _ _ _ h => h) (Or.inl ⟨by rfl, ?_⟩) ?_ ?_
        rotate_left
        · intro w'
          go_simp
          with_reducible rfl
        rotate_left
        · simp only [Act.put, List.setIfInBounds_toArray, List.set_cons_zero, List.set_cons_succ, i64_w, i32_w]
          rfl
        refine take_ (i := 0) (N := some 27) (v := ?_) (a' := ?_) #[true, true, false, true, true, true, true, true, true, true, false, false, false, false, false] rfl rfl (by kernel_rfl) (fun _ _ _ h => h) (Or.inl ⟨by rfl, ?_⟩) hHeld ?_ ?_
        rotate_left
        · rintro w' ⟨s0, s1, s2⟩
          go_simp
          with_reducible rfl
        rotate_left
        · simp only [Act.put, List.setIfInBounds_toArray, List.set_cons_zero, List.set_cons_succ, i64_w, i32_w]
          rfl
        refine take_ (i := 2) (N := some 29) (v := ?_) (a' := ?_) #[true, true, true, true, true, true, true, true, true, true, false, false, false, false, false] rfl rfl (by kernel_rfl) (fun _ _ _ h => h) (Or.inl ⟨by rfl, ?_⟩) hHeld ?_ ?_
        rotate_left
        · rintro w' ⟨s0, s1, s2⟩
          go_simp
          with_reducible rfl
        rotate_left
        · simp only [Act.put, List.setIfInBounds_toArray, List.set_cons_zero, List.set_cons_succ, i64_w, i32_w]
          rfl
        refine take_ (i := 10) (N := some 37) (v := ?_) (a' := ?_) #[true, true, true, true, true, true, true, true, true, true, true, false, false, false, false] rfl rfl (by kernel_rfl) (fun _ _ _ h => h) (Or.inl ⟨by rfl, ?_⟩) hHeld ?_ ?_
        rotate_left
        · rintro w' ⟨s0, s1, s2⟩
          go_simp
          with_reducible rfl
        rotate_left
        · simp only [Act.put, List.setIfInBounds_toArray, List.set_cons_zero, List.set_cons_succ, i64_w, i32_w]
          rfl
        refine pure_ (i := 11) (N := some 38) (v := ?_) (a' := ?_) #[true, true, true, true, true, true, true, true, true, true, true, true, false, false, false] rfl rfl (by kernel_rfl) (fun _ _ _ h => h) (Or.inl ⟨by rfl, ?_⟩) ?_ ?_
        rotate_left
        · intro w'
          go_simp
          with_reducible rfl
        rotate_left
        · simp only [Act.put, List.setIfInBounds_toArray, List.set_cons_zero, List.set_cons_succ, i64_w, i32_w]
          rfl
        refine one_ (i := 12) (N := some 39) #[true, true, true, true, true, true, true, true, true, true, true, true, true, false, false] rfl rfl (by kernel_rfl) (by decide) (fun K hK => ?_)
        refine value_ (w1 := ?_) (v := ?_) (by rfl) rfl ?_ ?_
        rotate_left 2
        · go_simp
          constructor
          · rfl
          · rfl
        refine hK.out _ _ ⟨(blk_cell (blk_alloc (show w.drew.heap[gf]? = _ from KF.out) _) 1).trans HFR.out, (blk_cell (blk_alloc (show w.drew.heap[gs]? = _ from KS.out) _) 51).trans ACA.out, (blk_cell (blk_alloc (show w.drew.heap[go]? = _ from KO.out) _) 0).trans rfl⟩ (fun hHeld => ?_)
        clear hK K
        refine norm_ (a' := ?_) ?_ ?_
        rotate_left
        · show Act.put _ (some 39) _ = _
          simp only [Act.put, List.setIfInBounds_toArray, List.set_cons_zero, List.set_cons_succ, i64_w, i32_w]
          rfl
        refine one_ (i := 13) (N := some 40) #[true, true, true, true, true, true, true, true, true, true, true, true, true, true, false] rfl rfl (by kernel_rfl) (by decide) (fun K hK => ?_)
        rw [show ∀ o, (w.alloc o).drew = w.drew.alloc o from fun _ => rfl]
        refine Kd.R_append_step k45 (w0 := w) N (by rfl) (.tmp 27) (.tmp 39) 46 45 (.agg #[(.int .i64 0), (.int .i64 0), (.int .i64 0), (.int .i64 0), (.int .i64 0), (.int .i64 0), (.int .i64 0), (.int .i64 0), (.string ⟨#[]⟩)]) 80 rfl Try.underlying46 info45 rfl (by decide) (by omega) v l (cmdS node x y ww hh col) [.int .i64 1, .int .i64 node, .int .i64 x, .int .i64 y, .int .i64 ww, .int .i64 hh, .int .i64 col, .int .i64 0, .string ⟨#[]⟩] (fun _ => True) (fun _ => False) rfl rfl ?aP (fun _ hk => hk.elim) ?aF ?aO ?aB ?aS ?aL ?_
        (case aP => exact k45_mkM _ _ _ (cmdS node x y ww hh col))
        (case aF => exact fun _ _ => trivial)
        (case aO => exact Kd.R_drew HR.out)
        (case aB => exact below_drew1 (Below.refl _ _))
        (case aS => exact HNW.out)
        (case aL => have := HLEN.out; omega)
        intro v1 w1 hr1 hb1 hg1 hat1
        obtain ⟨A1, q1, rfl, _, _⟩ := Kd.R_reads hr1
        have HR1 := Aside0.mk hr1
        have HB1 := Aside0.mk hb1
        have KF1 := Aside0.mk (blk_grown (show w.drew.heap[gf]? = _ from KF.out) hg1 (HOWN.out _ HFN.out))
        have KS1 := Aside0.mk (blk_grown (show w.drew.heap[gs]? = _ from KS.out) hg1 (HOWN.out _ HSN.out))
        have KO1 := Aside0.mk (blk_grown (show w.drew.heap[go]? = _ from KO.out) hg1 (HOWN.out _ HN.out))
        clear hr1 hb1 hg1 hat1
        refine hK.out _ _ ⟨(blk_cell KF1.out 1).trans HFR.out, (blk_cell KS1.out 51).trans ACA.out, (blk_cell KO1.out 0).trans rfl⟩ (fun hHeld => ?_)
        clear hK K
        refine norm_ (a' := ?_) ?_ ?_
        rotate_left
        · show Act.put _ (some 40) _ = _
          simp only [Act.put, List.setIfInBounds_toArray, List.set_cons_zero, List.set_cons_succ, i64_w, i32_w]
          rfl
        refine last_ (i := 14) (N := none) #[true, true, true, true, true, true, true, true, true, true, true, true, true, true, true] rfl rfl (by kernel_rfl) (by decide) (fun K hK => ?_)
        have zo : w1.cell? ⟨go, 0, none⟩ = some v := (blk_cell KO1.out 0).trans rfl
        have yo := blk_frozen KO1.out 0
        refine skip_ (w1 := ?_) (by rfl) rfl ?_ ?_
        rotate_left
        · go_simp
          rfl
        refine hK.out _ _ ?_
        clear hK K
        refine done_ (by kernel_rfl) ?_
        go_wp2
        refine bodyPost_end (results_list (rs := []) rfl (by simp) .nil) rfl ?_
        have hr2 := HR1.out
        rw [List.length_append, List.length_singleton] at hr2
        exact fill_end HN.out HNW.out HBG.out hr2 HB1.out KO1.out
      · skip
        have b1 : decide (ww > 0) = true := decide_eq_true c1
        have b2 : decide (hh > 0) = true := decide_eq_true c2
        have b3 : decide (bits .and .i64 col 255 > 0) = false := decide_eq_false c3
        clear c1 c2 c3
        have hs_ : seen ww hh col = false := by unfold seen; rw [b1, b2, b3]; rfl
        rw [none_ _ hs_, List.append_nil]
        clear hs_ none_
        go_enter Try.func63, Try.ntmps63
        go_wp2
        refine bodyPost_end (results_list (rs := []) rfl (by simp) .nil) rfl ?_
        exact ⟨v, rfl, KO.out, HR.out, HNW.out, fun _ _ _ => rfl, Below.refl _ _⟩
    · skip
      have b1 : decide (ww > 0) = true := decide_eq_true c1
      have b2 : decide (hh > 0) = false := decide_eq_false c2
      clear c1 c2
      have hs_ : seen ww hh col = false := by unfold seen; rw [b1, b2]; rfl
      rw [none_ _ hs_, List.append_nil]
      clear hs_ none_
      go_enter Try.func63, Try.ntmps63
      go_wp2
      refine bodyPost_end (results_list (rs := []) rfl (by simp) .nil) rfl ?_
      exact ⟨v, rfl, KO.out, HR.out, HNW.out, fun _ _ _ => rfl, Below.refl _ _⟩
  · skip
    have b1 : decide (ww > 0) = false := decide_eq_false c1
    clear c1
    have hs_ : seen ww hh col = false := by unfold seen; rw [b1]; rfl
    rw [none_ _ hs_, List.append_nil]
    clear hs_ none_
    go_enter Try.func63, Try.ntmps63
    go_wp2
    refine bodyPost_end (results_list (rs := []) rfl (by simp) .nil) rfl ?_
    exact ⟨v, rfl, KO.out, HR.out, HNW.out, fun _ _ _ => rfl, Below.refl _ _⟩
set_option maxHeartbeats 8000000 in
set_option maxRecDepth 100000 in
theorem ref_Fill_26.calls (f : Fr) (xs : List Int) (hl : xs.length = 118) (x y ww hh : Int) (gf gs go N b : Nat) (v : Value) (l : List S45) (w : World) (hN : go < N) (hNw : N ≤ w.heap.size) (hb_ : b ≤ go) (hfN : gf < N) (hsN : gs < N) (hgf : gf ≠ go) (hgs : gs ≠ go) (hlen : l.length ≤ 1000)
    (hf : w.heap[gf]? = some (.cells (frc f) 41 (0, 0))) (hs : w.heap[gs]? = some (.cells (nums .i64 xs).toArray 25 (0, 0))) (ho : w.heap[go]? = some (.cells #[v] 46 (0, 0))) (hr : Kd.R k45 45 w N (fun _ => True) v l) :
    Calls Try.prog 63 #[.int .i64 x, .int .i64 y, .int .i64 ww, .int .i64 hh, .int .i64 26, .pointer (some ⟨gs, 0, none⟩), .pointer (some ⟨go, 0, none⟩), .pointer (some ⟨gf, 0, none⟩)] w fun e w' => ∃ v', e = .returned (.tuple #[]) ∧ w'.heap[go]? = some (.cells #[v'] 46 (0, 0)) ∧ Kd.R k45 45 w' N (fun _ => True) v' (l ++ if seen ww hh (xs.getD 53 0) = true then [cmdS f.f1 x y ww hh (xs.getD 53 0)] else []) ∧ N ≤ w'.heap.size ∧ (∀ k, k < N → k ≠ go → w'.heap[k]? = w.heap[k]?) ∧ Below b w w' := by
  obtain ⟨a, ha⟩ : ∃ a, (nums .i64 xs).toArray = a := ⟨_, rfl⟩
  have AC : a[53]? = some (.int .i64 (xs.getD 53 0)) := by rw [← ha]; simp [nums, hl]
  rw [ha] at hs
  clear ha
  have KF := Aside0.mk hf
  have KS := Aside0.mk hs
  have KO := Aside0.mk ho
  have HR := Aside0.mk hr
  have hown : ∀ k, k < N → some k ≠ v.ownBlock := fun k hk e => by have := Kd.R_base hr k e.symm; omega
  have HOWN := Aside0.mk hown
  have ACA := Aside0.mk AC
  have vf : w.cell? ⟨gf, 1, none⟩ = some (.int .i64 f.f1) := (blk_cell hf 1).trans rfl
  have vs : w.cell? ⟨gs, 53, none⟩ = some (.int .i64 (xs.getD 53 0)) := (blk_cell hs 53).trans AC
  have vo : w.cell? ⟨go, 0, none⟩ = some v := (blk_cell ho 0).trans rfl
  clear hf hs ho hr AC hown
  have HN := Aside0.mk hN
  have HNW := Aside0.mk hNw
  have HBG := Aside0.mk hb_
  have HFN := Aside0.mk hfN
  have HSN := Aside0.mk hsN
  have HLEN := Aside0.mk hlen
  clear hN hNw hb_ hfN hsN hlen
  obtain ⟨node, hnode⟩ : ∃ n, f.f1 = n := ⟨_, rfl⟩
  obtain ⟨col, hcol⟩ : ∃ n, xs.getD 53 0 = n := ⟨_, rfl⟩
  rw [hnode] at vf ⊢
  rw [hcol] at vs ACA ⊢
  have HFR : Aside0 ((frc f)[1]? = some (.int .i64 node)) := ⟨by rw [← hnode]; rfl⟩
  clear hnode hcol
  have none_ : ∀ (s : Bool), s = false → (if s = true then [cmdS node x y ww hh col] else ([] : List S45)) = [] := fun s h => by rw [h]; rfl
  by_cases c1 : ww > 0
  · by_cases c2 : hh > 0
    · by_cases c3 : bits .and .i64 col 255 > 0
      · have b1 : decide (ww > 0) = true := decide_eq_true c1
        have b2 : decide (hh > 0) = true := decide_eq_true c2
        have b3 : decide (bits .and .i64 col 255 > 0) = true := decide_eq_true c3
        have hs_ : seen ww hh col = true := by unfold seen; rw [b1, b2, b3]; rfl
        rw [if_pos hs_]
        clear c1 c2 c3 hs_ none_
        go_enter Try.func63, Try.ntmps63
        go_wp2
        refine start_ (n := 15) (S := fun w' => w'.cell? ⟨gf, 1, none⟩ = some (.int .i64 node) ∧ w'.cell? ⟨gs, 53, none⟩ = some (.int .i64 col) ∧ w'.cell? ⟨go, 0, none⟩ = some v) (ds := [14]) #[false, false, false, false, false, false, false, false, false, false, false, false, false, false, false] (by kernel_rfl) rfl rfl ⟨vf, vs, vo⟩ (fun hHeld => ?_)
        refine pure_ (i := 1) (N := some 28) (v := ?_) (a' := ?_) #[false, true, false, false, false, false, false, false, false, false, false, false, false, false, false] rfl rfl (by kernel_rfl) (fun _ _ _ h => h) (Or.inl ⟨by rfl, ?_⟩) ?_ ?_
        rotate_left
        · intro w'
          go_simp
          with_reducible rfl
        rotate_left
        · simp only [Act.put, List.setIfInBounds_toArray, List.set_cons_zero, List.set_cons_succ, i64_w, i32_w]
          rfl
        refine pure_ (i := 3) (N := some 30) (v := ?_) (a' := ?_) #[false, true, false, true, false, false, false, false, false, false, false, false, false, false, false] rfl rfl (by kernel_rfl) (fun _ _ _ h => h) (Or.inl ⟨by rfl, ?_⟩) ?_ ?_
        rotate_left
        · intro w'
          go_simp
          with_reducible rfl
        rotate_left
        · simp only [Act.put, List.setIfInBounds_toArray, List.set_cons_zero, List.set_cons_succ, i64_w, i32_w]
          rfl
        refine pure_ (i := 4) (N := some 31) (v := ?_) (a' := ?_) #[false, true, false, true, true, false, false, false, false, false, false, false, false, false, false] rfl rfl (by kernel_rfl) (fun _ _ _ h => h) (Or.inl ⟨by rfl, ?_⟩) ?_ ?_
        rotate_left
        · intro w'
          go_simp
          with_reducible rfl
        rotate_left
        · simp only [Act.put, List.setIfInBounds_toArray, List.set_cons_zero, List.set_cons_succ, i64_w, i32_w]
          rfl
        refine pure_ (i := 5) (N := some 32) (v := ?_) (a' := ?_) #[false, true, false, true, true, true, false, false, false, false, false, false, false, false, false] rfl rfl (by kernel_rfl) (fun _ _ _ h => h) (Or.inl ⟨by rfl, ?_⟩) ?_ ?_
        rotate_left
        · intro w'
          go_simp
          with_reducible rfl
        rotate_left
        · simp only [Act.put, List.setIfInBounds_toArray, List.set_cons_zero, List.set_cons_succ, i64_w, i32_w]
          rfl
        refine pure_ (i := 6) (N := some 33) (v := ?_) (a' := ?_) #[false, true, false, true, true, true, true, false, false, false, false, false, false, false, false] rfl rfl (by kernel_rfl) (fun _ _ _ h => h) (Or.inl ⟨by rfl, ?_⟩) ?_ ?_
        rotate_left
        · intro w'
          go_simp
          with_reducible rfl
        rotate_left
        · simp only [Act.put, List.setIfInBounds_toArray, List.set_cons_zero, List.set_cons_succ, i64_w, i32_w]
          rfl
        refine pure_ (i := 7) (N := some 34) (v := ?_) (a' := ?_) #[false, true, false, true, true, true, true, true, false, false, false, false, false, false, false] rfl rfl (by kernel_rfl) (fun _ _ _ h => h) (Or.inl ⟨by rfl, ?_⟩) ?_ ?_
        rotate_left
        · intro w'
          go_simp
          with_reducible rfl
        rotate_left
        · simp only [Act.put, List.setIfInBounds_toArray, List.set_cons_zero, List.set_cons_succ, i64_w, i32_w]
          rfl
        refine pure_ (i := 8) (N := some 35) (v := ?_) (a' := ?_) #[false, true, false, true, true, true, true, true, true, false, false, false, false, false, false] rfl rfl (by kernel_rfl) (fun _ _ _ h => h) (Or.inl ⟨by rfl, ?_⟩) ?_ ?_
        rotate_left
        · intro w'
          go_simp
          with_reducible rfl
        rotate_left
        · simp only [Act.put, List.setIfInBounds_toArray, List.set_cons_zero, List.set_cons_succ, i64_w, i32_w]
          rfl
        refine pure_ (i := 9) (N := some 36) (v := ?_) (a' := ?_) #[false, true, false, true, true, true, true, true, true, true, false, false, false, false, false] rfl rfl (by kernel_rfl) (fun _ _ _ h => h) (Or.inl ⟨by rfl, ?_⟩) ?_ ?_
        rotate_left
        · intro w'
          go_simp
          with_reducible rfl
        rotate_left
        · simp only [Act.put, List.setIfInBounds_toArray, List.set_cons_zero, List.set_cons_succ, i64_w, i32_w]
          rfl
        refine take_ (i := 0) (N := some 27) (v := ?_) (a' := ?_) #[true, true, false, true, true, true, true, true, true, true, false, false, false, false, false] rfl rfl (by kernel_rfl) (fun _ _ _ h => h) (Or.inl ⟨by rfl, ?_⟩) hHeld ?_ ?_
        rotate_left
        · rintro w' ⟨s0, s1, s2⟩
          go_simp
          with_reducible rfl
        rotate_left
        · simp only [Act.put, List.setIfInBounds_toArray, List.set_cons_zero, List.set_cons_succ, i64_w, i32_w]
          rfl
        refine take_ (i := 2) (N := some 29) (v := ?_) (a' := ?_) #[true, true, true, true, true, true, true, true, true, true, false, false, false, false, false] rfl rfl (by kernel_rfl) (fun _ _ _ h => h) (Or.inl ⟨by rfl, ?_⟩) hHeld ?_ ?_
        rotate_left
        · rintro w' ⟨s0, s1, s2⟩
          go_simp
          with_reducible rfl
        rotate_left
        · simp only [Act.put, List.setIfInBounds_toArray, List.set_cons_zero, List.set_cons_succ, i64_w, i32_w]
          rfl
        refine take_ (i := 10) (N := some 37) (v := ?_) (a' := ?_) #[true, true, true, true, true, true, true, true, true, true, true, false, false, false, false] rfl rfl (by kernel_rfl) (fun _ _ _ h => h) (Or.inl ⟨by rfl, ?_⟩) hHeld ?_ ?_
        rotate_left
        · rintro w' ⟨s0, s1, s2⟩
          go_simp
          with_reducible rfl
        rotate_left
        · simp only [Act.put, List.setIfInBounds_toArray, List.set_cons_zero, List.set_cons_succ, i64_w, i32_w]
          rfl
        refine pure_ (i := 11) (N := some 38) (v := ?_) (a' := ?_) #[true, true, true, true, true, true, true, true, true, true, true, true, false, false, false] rfl rfl (by kernel_rfl) (fun _ _ _ h => h) (Or.inl ⟨by rfl, ?_⟩) ?_ ?_
        rotate_left
        · intro w'
          go_simp
          with_reducible rfl
        rotate_left
        · simp only [Act.put, List.setIfInBounds_toArray, List.set_cons_zero, List.set_cons_succ, i64_w, i32_w]
          rfl
        refine one_ (i := 12) (N := some 39) #[true, true, true, true, true, true, true, true, true, true, true, true, true, false, false] rfl rfl (by kernel_rfl) (by decide) (fun K hK => ?_)
        refine value_ (w1 := ?_) (v := ?_) (by rfl) rfl ?_ ?_
        rotate_left 2
        · go_simp
          constructor
          · rfl
          · rfl
        refine hK.out _ _ ⟨(blk_cell (blk_alloc (show w.drew.heap[gf]? = _ from KF.out) _) 1).trans HFR.out, (blk_cell (blk_alloc (show w.drew.heap[gs]? = _ from KS.out) _) 53).trans ACA.out, (blk_cell (blk_alloc (show w.drew.heap[go]? = _ from KO.out) _) 0).trans rfl⟩ (fun hHeld => ?_)
        clear hK K
        refine norm_ (a' := ?_) ?_ ?_
        rotate_left
        · show Act.put _ (some 39) _ = _
          simp only [Act.put, List.setIfInBounds_toArray, List.set_cons_zero, List.set_cons_succ, i64_w, i32_w]
          rfl
        refine one_ (i := 13) (N := some 40) #[true, true, true, true, true, true, true, true, true, true, true, true, true, true, false] rfl rfl (by kernel_rfl) (by decide) (fun K hK => ?_)
        rw [show ∀ o, (w.alloc o).drew = w.drew.alloc o from fun _ => rfl]
        refine Kd.R_append_step k45 (w0 := w) N (by rfl) (.tmp 27) (.tmp 39) 46 45 (.agg #[(.int .i64 0), (.int .i64 0), (.int .i64 0), (.int .i64 0), (.int .i64 0), (.int .i64 0), (.int .i64 0), (.int .i64 0), (.string ⟨#[]⟩)]) 80 rfl Try.underlying46 info45 rfl (by decide) (by omega) v l (cmdS node x y ww hh col) [.int .i64 1, .int .i64 node, .int .i64 x, .int .i64 y, .int .i64 ww, .int .i64 hh, .int .i64 col, .int .i64 0, .string ⟨#[]⟩] (fun _ => True) (fun _ => False) rfl rfl ?aP (fun _ hk => hk.elim) ?aF ?aO ?aB ?aS ?aL ?_
        (case aP => exact k45_mkM _ _ _ (cmdS node x y ww hh col))
        (case aF => exact fun _ _ => trivial)
        (case aO => exact Kd.R_drew HR.out)
        (case aB => exact below_drew1 (Below.refl _ _))
        (case aS => exact HNW.out)
        (case aL => have := HLEN.out; omega)
        intro v1 w1 hr1 hb1 hg1 hat1
        obtain ⟨A1, q1, rfl, _, _⟩ := Kd.R_reads hr1
        have HR1 := Aside0.mk hr1
        have HB1 := Aside0.mk hb1
        have KF1 := Aside0.mk (blk_grown (show w.drew.heap[gf]? = _ from KF.out) hg1 (HOWN.out _ HFN.out))
        have KS1 := Aside0.mk (blk_grown (show w.drew.heap[gs]? = _ from KS.out) hg1 (HOWN.out _ HSN.out))
        have KO1 := Aside0.mk (blk_grown (show w.drew.heap[go]? = _ from KO.out) hg1 (HOWN.out _ HN.out))
        clear hr1 hb1 hg1 hat1
        refine hK.out _ _ ⟨(blk_cell KF1.out 1).trans HFR.out, (blk_cell KS1.out 53).trans ACA.out, (blk_cell KO1.out 0).trans rfl⟩ (fun hHeld => ?_)
        clear hK K
        refine norm_ (a' := ?_) ?_ ?_
        rotate_left
        · show Act.put _ (some 40) _ = _
          simp only [Act.put, List.setIfInBounds_toArray, List.set_cons_zero, List.set_cons_succ, i64_w, i32_w]
          rfl
        refine last_ (i := 14) (N := none) #[true, true, true, true, true, true, true, true, true, true, true, true, true, true, true] rfl rfl (by kernel_rfl) (by decide) (fun K hK => ?_)
        have zo : w1.cell? ⟨go, 0, none⟩ = some v := (blk_cell KO1.out 0).trans rfl
        have yo := blk_frozen KO1.out 0
        refine skip_ (w1 := ?_) (by rfl) rfl ?_ ?_
        rotate_left
        · go_simp
          rfl
        refine hK.out _ _ ?_
        clear hK K
        refine done_ (by kernel_rfl) ?_
        go_wp2
        refine bodyPost_end (results_list (rs := []) rfl (by simp) .nil) rfl ?_
        have hr2 := HR1.out
        rw [List.length_append, List.length_singleton] at hr2
        exact fill_end HN.out HNW.out HBG.out hr2 HB1.out KO1.out
      · skip
        have b1 : decide (ww > 0) = true := decide_eq_true c1
        have b2 : decide (hh > 0) = true := decide_eq_true c2
        have b3 : decide (bits .and .i64 col 255 > 0) = false := decide_eq_false c3
        clear c1 c2 c3
        have hs_ : seen ww hh col = false := by unfold seen; rw [b1, b2, b3]; rfl
        rw [none_ _ hs_, List.append_nil]
        clear hs_ none_
        go_enter Try.func63, Try.ntmps63
        go_wp2
        refine bodyPost_end (results_list (rs := []) rfl (by simp) .nil) rfl ?_
        exact ⟨v, rfl, KO.out, HR.out, HNW.out, fun _ _ _ => rfl, Below.refl _ _⟩
    · skip
      have b1 : decide (ww > 0) = true := decide_eq_true c1
      have b2 : decide (hh > 0) = false := decide_eq_false c2
      clear c1 c2
      have hs_ : seen ww hh col = false := by unfold seen; rw [b1, b2]; rfl
      rw [none_ _ hs_, List.append_nil]
      clear hs_ none_
      go_enter Try.func63, Try.ntmps63
      go_wp2
      refine bodyPost_end (results_list (rs := []) rfl (by simp) .nil) rfl ?_
      exact ⟨v, rfl, KO.out, HR.out, HNW.out, fun _ _ _ => rfl, Below.refl _ _⟩
  · skip
    have b1 : decide (ww > 0) = false := decide_eq_false c1
    clear c1
    have hs_ : seen ww hh col = false := by unfold seen; rw [b1]; rfl
    rw [none_ _ hs_, List.append_nil]
    clear hs_ none_
    go_enter Try.func63, Try.ntmps63
    go_wp2
    refine bodyPost_end (results_list (rs := []) rfl (by simp) .nil) rfl ?_
    exact ⟨v, rfl, KO.out, HR.out, HNW.out, fun _ _ _ => rfl, Below.refl _ _⟩
end Go.Proofs.Ytaejmgdpnnhpmaa.QSty
