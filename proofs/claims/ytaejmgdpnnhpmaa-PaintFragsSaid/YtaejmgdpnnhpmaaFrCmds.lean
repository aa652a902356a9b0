/- The reference's FragCmds, walked by hand. -/
import Derived.Test.YtaejmgdpnnhpmaaFrFill
namespace Go.Proofs.Ytaejmgdpnnhpmaa.QSty
open Go.RowKit Go.Proofs.YtaejmgdpnnhpmaaW.PrintWords Go.Proofs.YtaejmgdpnnhpmaaW.PrintLast Go.Proofs.YtaejmgdpnnhpmaaW.PrintMore
set_option linter.unusedVariables false
set_option linter.unusedSimpArgs false
/-- One fill, if it is seen. -/
def onef (node x y w h c : Int) : List S45 := if seen w h c = true then [cmdS node x y w h c] else []
def top_ (xs : List Int) : Int := mx 0 (edg1 xs 19 0)
def right_ (xs : List Int) : Int := e4 xs 19 0 1
def bot_ (xs : List Int) : Int := mx 0 (edg1 xs (19 + 2) 0)
def left_ (xs : List Int) : Int := e4 xs 19 0 3
/-- A box's fills. -/
def fillsOf (f : Fr) (kind : Int) (xs : List Int) : List S45 :=
  (((([] ++ onef f.f1 f.x f.y f.w f.h (xs.getD 73 0)) ++ (if kind = 8 then [] else onef f.f1 f.x f.y f.w (top_ xs) (xs.getD 47 0))) ++ (if kind = 8 then [] else onef f.f1 (wrap64 (wrap64 (f.x + f.w) - right_ xs)) (wrap64 (f.y + top_ xs)) (right_ xs) (wrap64 (wrap64 (f.h - top_ xs) - bot_ xs)) (xs.getD 49 0))) ++ (if kind = 8 then [] else onef f.f1 f.x (wrap64 (wrap64 (f.y + f.h) - bot_ xs)) f.w (bot_ xs) (xs.getD 51 0))) ++ (if kind = 8 then [] else onef f.f1 f.x (wrap64 (f.y + top_ xs)) (left_ xs) (wrap64 (wrap64 (f.h - top_ xs) - bot_ xs)) (xs.getD 53 0))
/-- A text's command. -/
def textOf (f : Fr) (xs : List Int) : S45 := ⟨2, f.f1, f.x, wrap64 (f.y + ascent (fsize xs)), f.w, (ofv (xs.getD 88 0) (xs.getD 89 0) 0).1, xs.getD 71 0, fsize xs, f.text⟩
def cmdsOf (f : Fr) (kind : Int) (xs : List Int) : List S45 := if xs.getD 67 0 = 1 then [] else if kind = 4 then (if f.text.toList = [] then [] else [textOf f xs]) else fillsOf f kind xs
theorem onef_len (node x y w h c : Int) : (onef node x y w h c).length ≤ 1 := by unfold onef; split <;> simp
set_option maxHeartbeats 8000000 in
set_option maxRecDepth 100000 in
theorem ref_FragCmds.hidden (f : Fr) (kind : Int) (xs : List Int) (hl : xs.length = 118) (w : World) (hv : xs.getD 67 0 = 1) :
    Calls Try.prog 25 #[.agg (frc f), .int .i64 kind, sty xs] w fun e w' => ∃ v0, e = .returned v0 ∧ Kd.R k45 45 w' w.heap.size (fun _ => True) v0 [] ∧ Below w.heap.size w w' := by
  unfold sty
  obtain ⟨a, ha⟩ : ∃ a, (nums .i64 xs).toArray = a := ⟨_, rfl⟩
  have hsz : a.size = 118 := by rw [← ha]; simp [nums, hl]
  have HA := Aside0.mk ha
  have HL := Aside0.mk hl
  have A67 : Aside0 (a[67]? = some (.int .i64 (xs.getD 67 0))) := ⟨by rw [← ha]; simp [nums, hl]⟩
  rw [ha]
  clear ha hl
  obtain ⟨F, hF⟩ : ∃ F, frc f = F := ⟨_, rfl⟩
  have HF := Aside0.mk hF
  rw [hF]
  clear hF
  have HB := Aside0.mk (Below.refl w.heap.size w)
  obtain ⟨vis, hvis⟩ : ∃ q, xs.getD 67 0 = q := ⟨_, rfl⟩
  rw [hvis] at A67 hv
  clear hvis
  have bv : (vis == 1) = true := beq_iff_eq.mpr hv
  clear hv
  go_enter Try.func25, Try.ntmps25
  go_wp2_with (first | ((with_reducible refine gate_dst (N := 3) rfl ?_); refine box_event rfl (N := 3) rfl (cs := F) (t := 41) (by first | (go_simp; done) | (go_simp; rfl)) ?_; intro gf hg_ w1 hbx hb; have Kgf_1 := Aside0.mk hbx; have Bgf := Aside0.mk (show w.heap.size ≤ gf by have := HB.out.size; omega); have HB1 := Aside0.mk (below_step HB.out hb); clear hg_ hbx hb) | ((with_reducible refine gate_dst (N := 5) rfl ?_); refine box_event rfl (N := 5) rfl (cs := a) (t := 25) (by first | (go_simp; done) | (go_simp; rfl)) ?_; intro gs hg_ w2 hbx hb; have Kgs_2 := Aside0.mk hbx; have Bgs := Aside0.mk (show w.heap.size ≤ gs by have := HB1.out.size; omega); have Kgf_2 := Aside0.mk (blk_below Kgf_1.out hb); have Ngfgs : gf ≠ gs := (by have h1 := blk_lt Kgf_1.out; omega); have HB2 := Aside0.mk (below_step HB1.out hb); clear hg_ hbx hb; have v67 : w2.cell? ⟨gs, 67, none⟩ = some (.int .i64 vis) := (blk_cell Kgs_2.out 67).trans A67.out))
  go_ret
  exact ⟨_, rfl, Kd.R_nil _ _ _ _ _, HB2.out⟩
set_option maxHeartbeats 8000000 in
set_option maxRecDepth 100000 in
theorem ref_FragCmds.empty (f : Fr) (kind : Int) (xs : List Int) (hl : xs.length = 118) (w : World) (hv : ¬ xs.getD 67 0 = 1) (hk : kind = 4) (ht : f.text.toList = []) :
    Calls Try.prog 25 #[.agg (frc f), .int .i64 kind, sty xs] w fun e w' => ∃ v0, e = .returned v0 ∧ Kd.R k45 45 w' w.heap.size (fun _ => True) v0 [] ∧ Below w.heap.size w w' := by
  unfold sty
  obtain ⟨a, ha⟩ : ∃ a, (nums .i64 xs).toArray = a := ⟨_, rfl⟩
  have hsz : a.size = 118 := by rw [← ha]; simp [nums, hl]
  have HA := Aside0.mk ha
  have HL := Aside0.mk hl
  have A67 : Aside0 (a[67]? = some (.int .i64 (xs.getD 67 0))) := ⟨by rw [← ha]; simp [nums, hl]⟩
  rw [ha]
  clear ha hl
  obtain ⟨F, hF⟩ : ∃ F, frc f = F := ⟨_, rfl⟩
  have HF := Aside0.mk hF
  rw [hF]
  clear hF
  have HB := Aside0.mk (Below.refl w.heap.size w)
  obtain ⟨vis, hvis⟩ : ∃ q, xs.getD 67 0 = q := ⟨_, rfl⟩
  rw [hvis] at A67 hv
  clear hvis
  have bv : (vis == 1) = false := beq_eq_false_iff_ne.mpr hv
  have bk : (kind == 4) = true := beq_iff_eq.mpr hk
  have bt : (f.text.toList == []) = true := beq_iff_eq.mpr ht
  have bt2 : f.text.toList.isEmpty = true := by rw [ht]; rfl
  clear hv ht
  go_enter Try.func25, Try.ntmps25
  go_wp2_with (first | ((with_reducible refine gate_dst (N := 3) rfl ?_); refine box_event rfl (N := 3) rfl (cs := F) (t := 41) (by first | (go_simp; done) | (go_simp; rfl)) ?_; intro gf hg_ w1 hbx hb; have Kgf_1 := Aside0.mk hbx; have Bgf := Aside0.mk (show w.heap.size ≤ gf by have := HB.out.size; omega); have HB1 := Aside0.mk (below_step HB.out hb); clear hg_ hbx hb) | ((with_reducible refine gate_dst (N := 5) rfl ?_); refine box_event rfl (N := 5) rfl (cs := a) (t := 25) (by first | (go_simp; done) | (go_simp; rfl)) ?_; intro gs hg_ w2 hbx hb; have Kgs_2 := Aside0.mk hbx; have Bgs := Aside0.mk (show w.heap.size ≤ gs by have := HB1.out.size; omega); have Kgf_2 := Aside0.mk (blk_below Kgf_1.out hb); have Ngfgs : gf ≠ gs := (by have h1 := blk_lt Kgf_1.out; omega); have HB2 := Aside0.mk (below_step HB1.out hb); clear hg_ hbx hb; have v67 : w2.cell? ⟨gs, 67, none⟩ = some (.int .i64 vis) := (blk_cell Kgs_2.out 67).trans A67.out; have vt : w2.cell? ⟨gf, 7, none⟩ = some (.string f.text) := (blk_cell Kgf_2.out 7).trans (by rw [← HF.out]; rfl)))
  go_ret
  exact ⟨_, rfl, Kd.R_nil _ _ _ _ _, HB2.out⟩
set_option maxHeartbeats 8000000 in
set_option maxRecDepth 100000 in
theorem ref_FragCmds.text (f : Fr) (kind : Int) (xs : List Int) (hl : xs.length = 118) (w : World) (hv : ¬ xs.getD 67 0 = 1) (hk : kind = 4) (ht : ¬ f.text.toList = []) :
    Calls Try.prog 25 #[.agg (frc f), .int .i64 kind, sty xs] w fun e w' => ∃ v0, e = .returned v0 ∧ Kd.R k45 45 w' w.heap.size (fun _ => True) v0 [textOf f xs] ∧ Below w.heap.size w w' := by
  unfold sty
  obtain ⟨a, ha⟩ : ∃ a, (nums .i64 xs).toArray = a := ⟨_, rfl⟩
  have hsz : a.size = 118 := by rw [← ha]; simp [nums, hl]
  have HA := Aside0.mk ha
  have HL := Aside0.mk hl
  have A67 : Aside0 (a[67]? = some (.int .i64 (xs.getD 67 0))) := ⟨by rw [← ha]; simp [nums, hl]⟩
  rw [ha]
  clear ha hl
  obtain ⟨F, hF⟩ : ∃ F, frc f = F := ⟨_, rfl⟩
  have HF := Aside0.mk hF
  rw [hF]
  clear hF
  have HB := Aside0.mk (Below.refl w.heap.size w)
  obtain ⟨vis, hvis⟩ : ∃ q, xs.getD 67 0 = q := ⟨_, rfl⟩
  rw [hvis] at A67 hv
  clear hvis
  have bv : (vis == 1) = false := beq_eq_false_iff_ne.mpr hv
  have bk : (kind == 4) = true := beq_iff_eq.mpr hk
  have bt : (f.text.toList == []) = false := beq_eq_false_iff_ne.mpr ht
  have bt2 : f.text.toList.isEmpty = false := by rw [Bool.eq_false_iff]; intro h; exact ht (List.isEmpty_iff.mp h)
  clear hv ht
  have CO := fun w => (clerestoryref3_Of.calls (xs.getD 88 0) (xs.getD 89 0) 0 _ _ w (of_b _ _ _))
  have CS := fun w => ref_Size.calls xs HL.out w
  have CA := fun n w => ref_Ascent.calls n w
  unfold sty at CS
  rw [HA.out] at CS
  unfold textOf
  obtain ⟨sz, hsz_⟩ : ∃ z, fsize xs = z := ⟨_, rfl⟩
  rw [hsz_] at CS ⊢
  clear hsz_
  obtain ⟨asc, hasc⟩ : ∃ z, ascent sz = z := ⟨_, rfl⟩
  have CA1 := CA sz
  rw [hasc] at CA1 ⊢
  clear CA hasc
  obtain ⟨sp, hsp⟩ : ∃ z, (ofv (xs.getD 88 0) (xs.getD 89 0) 0).1 = z := ⟨_, rfl⟩
  rw [hsp] at CO ⊢
  clear hsp
  have A88 : Aside0 (a[88]? = some (.int .i64 (xs.getD 88 0))) := ⟨by rw [← HA.out]; simp [nums, HL.out]⟩
  have A89 : Aside0 (a[89]? = some (.int .i64 (xs.getD 89 0))) := ⟨by rw [← HA.out]; simp [nums, HL.out]⟩
  have A71 : Aside0 (a[71]? = some (.int .i64 (xs.getD 71 0))) := ⟨by rw [← HA.out]; simp [nums, HL.out]⟩
  obtain ⟨s88, h88⟩ : ∃ z, xs.getD 88 0 = z := ⟨_, rfl⟩
  obtain ⟨s89, h89⟩ : ∃ z, xs.getD 89 0 = z := ⟨_, rfl⟩
  obtain ⟨col, h71⟩ : ∃ z, xs.getD 71 0 = z := ⟨_, rfl⟩
  rw [h88] at A88 CO
  rw [h89] at A89 CO
  rw [h71] at A71 ⊢
  clear h88 h89 h71
  have KCO := Aside0.mk CO
  have KCS := Aside0.mk CS
  have KCA := Aside0.mk CA1
  clear CO CS CA1
  go_enter Try.func25, Try.ntmps25
  go_wp2_with (first | ((with_reducible refine gate_dst (N := 3) rfl ?_); refine box_event rfl (N := 3) rfl (cs := F) (t := 41) (by first | (go_simp; done) | (go_simp; rfl)) ?_; intro gf hg_ w1 hbx hb; have Kgf_1 := Aside0.mk hbx; have Bgf := Aside0.mk (show w.heap.size ≤ gf by have := HB.out.size; omega); have HB1 := Aside0.mk (below_step HB.out hb); clear hg_ hbx hb) | ((with_reducible refine gate_dst (N := 5) rfl ?_); refine box_event rfl (N := 5) rfl (cs := a) (t := 25) (by first | (go_simp; done) | (go_simp; rfl)) ?_; intro gs hg_ w2 hbx hb; have Kgs_2 := Aside0.mk hbx; have Bgs := Aside0.mk (show w.heap.size ≤ gs by have := HB1.out.size; omega); have Kgf_2 := Aside0.mk (blk_below Kgf_1.out hb); have Ngfgs : gf ≠ gs := (by have h1 := blk_lt Kgf_1.out; omega); have HB2 := Aside0.mk (below_step HB1.out hb); clear hg_ hbx hb; have v67 : w2.cell? ⟨gs, 67, none⟩ = some (.int .i64 vis) := (blk_cell Kgs_2.out 67).trans A67.out; have vt : w2.cell? ⟨gf, 7, none⟩ = some (.string f.text) := (blk_cell Kgf_2.out 7).trans (by rw [← HF.out]; rfl); have v88 : w2.cell? ⟨gs, 88, none⟩ = some (.int .i64 s88) := (blk_cell Kgs_2.out 88).trans A88.out; have v89 : w2.cell? ⟨gs, 89, none⟩ = some (.int .i64 s89) := (blk_cell Kgs_2.out 89).trans A89.out) | (go_at_call 15; (with_reducible refine (KCO.out _).mono ?_); rintro e w3 ⟨rfl, hb⟩; have Kgs_3 := Aside0.mk (blk_below Kgs_2.out hb); have Kgf_3 := Aside0.mk (blk_below Kgf_2.out hb); have HB3 := Aside0.mk (below_step HB2.out hb); clear hb v67 vt v88 v89))
  have AF1 : Aside0 (F[1]? = some (.int .i64 f.f1)) := ⟨by rw [← HF.out]; rfl⟩
  have AF3 : Aside0 (F[3]? = some (.int .i64 f.x)) := ⟨by rw [← HF.out]; rfl⟩
  have AF4 : Aside0 (F[4]? = some (.int .i64 f.y)) := ⟨by rw [← HF.out]; rfl⟩
  have AF5 : Aside0 (F[5]? = some (.int .i64 f.w)) := ⟨by rw [← HF.out]; rfl⟩
  have AF7 : Aside0 (F[7]? = some (.string f.text)) := ⟨by rw [← HF.out]; rfl⟩
  refine start_ (n := 23) (S := fun w' => w'.heap[gs]? = some (.cells a 25 (0, 0)) ∧ w'.cell? ⟨gs, 71, none⟩ = some (.int .i64 col) ∧ w'.cell? ⟨gf, 1, none⟩ = some (.int .i64 f.f1) ∧ w'.cell? ⟨gf, 3, none⟩ = some (.int .i64 f.x) ∧ w'.cell? ⟨gf, 4, none⟩ = some (.int .i64 f.y) ∧ w'.cell? ⟨gf, 5, none⟩ = some (.int .i64 f.w) ∧ w'.cell? ⟨gf, 7, none⟩ = some (.string f.text) ∧ w'.heap[gf]? = some (.cells F 41 (0, 0)) ∧ Below w.heap.size w w') (ds := [21]) #[false, false, false, false, false, false, false, false, false, false, false, false, false, false, false, false, false, false, false, false, false, false, false] (by kernel_rfl) rfl rfl ⟨Kgs_3.out, (blk_cell Kgs_3.out 71).trans A71.out, (blk_cell Kgf_3.out 1).trans AF1.out, (blk_cell Kgf_3.out 3).trans AF3.out, (blk_cell Kgf_3.out 4).trans AF4.out, (blk_cell Kgf_3.out 5).trans AF5.out, (blk_cell Kgf_3.out 7).trans AF7.out, Kgf_3.out, below_drew1 HB3.out⟩ (fun hHeld => ?_)
  refine pure_ (i := 0) (N := some 27) (v := ?_) (a' := ?_) #[true, false, false, false, false, false, false, false, false, false, false, false, false, false, false, false, false, false, false, false, false, false, false] rfl rfl (by kernel_rfl) (fun _ _ _ h => h) (Or.inl ⟨by rfl, ?_⟩) ?_ ?_
  rotate_left
  · intro w'
    go_simp
    with_reducible rfl
  rotate_left
  · simp only [Act.put, List.setIfInBounds_toArray, List.set_cons_zero, List.set_cons_succ, i64_w, i32_w]
    rfl
  refine pure_ (i := 2) (N := some 29) (v := ?_) (a' := ?_) #[true, false, true, false, false, false, false, false, false, false, false, false, false, false, false, false, false, false, false, false, false, false, false] rfl rfl (by kernel_rfl) (fun _ _ _ h => h) (Or.inl ⟨by rfl, ?_⟩) ?_ ?_
  rotate_left
  · intro w'
    go_simp
    with_reducible rfl
  rotate_left
  · simp only [Act.put, List.setIfInBounds_toArray, List.set_cons_zero, List.set_cons_succ, i64_w, i32_w]
    rfl
  refine pure_ (i := 4) (N := some 31) (v := ?_) (a' := ?_) #[true, false, true, false, true, false, false, false, false, false, false, false, false, false, false, false, false, false, false, false, false, false, false] rfl rfl (by kernel_rfl) (fun _ _ _ h => h) (Or.inl ⟨by rfl, ?_⟩) ?_ ?_
  rotate_left
  · intro w'
    go_simp
    with_reducible rfl
  rotate_left
  · simp only [Act.put, List.setIfInBounds_toArray, List.set_cons_zero, List.set_cons_succ, i64_w, i32_w]
    rfl
  refine pure_ (i := 10) (N := some 37) (v := ?_) (a' := ?_) #[true, false, true, false, true, false, false, false, false, false, true, false, false, false, false, false, false, false, false, false, false, false, false] rfl rfl (by kernel_rfl) (fun _ _ _ h => h) (Or.inl ⟨by rfl, ?_⟩) ?_ ?_
  rotate_left
  · intro w'
    go_simp
    with_reducible rfl
  rotate_left
  · simp only [Act.put, List.setIfInBounds_toArray, List.set_cons_zero, List.set_cons_succ, i64_w, i32_w]
    rfl
  refine pure_ (i := 12) (N := some 39) (v := ?_) (a' := ?_) #[true, false, true, false, true, false, false, false, false, false, true, false, true, false, false, false, false, false, false, false, false, false, false] rfl rfl (by kernel_rfl) (fun _ _ _ h => h) (Or.inl ⟨by rfl, ?_⟩) ?_ ?_
  rotate_left
  · intro w'
    go_simp
    with_reducible rfl
  rotate_left
  · simp only [Act.put, List.setIfInBounds_toArray, List.set_cons_zero, List.set_cons_succ, i64_w, i32_w]
    rfl
  refine pure_ (i := 15) (N := some 42) (v := ?_) (a' := ?_) #[true, false, true, false, true, false, false, false, false, false, true, false, true, false, false, true, false, false, false, false, false, false, false] rfl rfl (by kernel_rfl) (fun _ _ _ h => h) (Or.inl ⟨by rfl, ?_⟩) ?_ ?_
  rotate_left
  · intro w'
    go_simp
    with_reducible rfl
  rotate_left
  · simp only [Act.put, List.setIfInBounds_toArray, List.set_cons_zero, List.set_cons_succ, i64_w, i32_w]
    rfl
  refine pure_ (i := 16) (N := some 43) (v := ?_) (a' := ?_) #[true, false, true, false, true, false, false, false, false, false, true, false, true, false, false, true, true, false, false, false, false, false, false] rfl rfl (by kernel_rfl) (fun _ _ _ h => h) (Or.inl ⟨by rfl, ?_⟩) ?_ ?_
  rotate_left
  · intro w'
    go_simp
    with_reducible rfl
  rotate_left
  · simp only [Act.put, List.setIfInBounds_toArray, List.set_cons_zero, List.set_cons_succ, i64_w, i32_w]
    rfl
  refine pure_ (i := 18) (N := some 45) (v := ?_) (a' := ?_) #[true, false, true, false, true, false, false, false, false, false, true, false, true, false, false, true, true, false, true, false, false, false, false] rfl rfl (by kernel_rfl) (fun _ _ _ h => h) (Or.inl ⟨by rfl, ?_⟩) ?_ ?_
  rotate_left
  · intro w'
    go_simp
    with_reducible rfl
  rotate_left
  · simp only [Act.put, List.setIfInBounds_toArray, List.set_cons_zero, List.set_cons_succ, i64_w, i32_w]
    rfl
  refine take_ (i := 1) (N := some 28) (v := ?_) (a' := ?_) #[true, true, true, false, true, false, false, false, false, false, true, false, true, false, false, true, true, false, true, false, false, false, false] rfl rfl (by kernel_rfl) (fun _ _ _ h => h) (Or.inl ⟨by rfl, ?_⟩) hHeld ?_ ?_
  rotate_left
  · rintro w' ⟨s0, s1, s2, s3, s4, s5, s6, s7, s8⟩
    go_simp
    with_reducible rfl
  rotate_left
  · simp only [Act.put, List.setIfInBounds_toArray, List.set_cons_zero, List.set_cons_succ, i64_w, i32_w]
    rfl
  refine take_ (i := 3) (N := some 30) (v := ?_) (a' := ?_) #[true, true, true, true, true, false, false, false, false, false, true, false, true, false, false, true, true, false, true, false, false, false, false] rfl rfl (by kernel_rfl) (fun _ _ _ h => h) (Or.inl ⟨by rfl, ?_⟩) hHeld ?_ ?_
  rotate_left
  · rintro w' ⟨s0, s1, s2, s3, s4, s5, s6, s7, s8⟩
    go_simp
    with_reducible rfl
  rotate_left
  · simp only [Act.put, List.setIfInBounds_toArray, List.set_cons_zero, List.set_cons_succ, i64_w, i32_w]
    rfl
  refine take_ (i := 5) (N := some 32) (v := ?_) (a' := ?_) #[true, true, true, true, true, true, false, false, false, false, true, false, true, false, false, true, true, false, true, false, false, false, false] rfl rfl (by kernel_rfl) (fun _ _ _ h => h) (Or.inl ⟨by rfl, ?_⟩) hHeld ?_ ?_
  rotate_left
  · rintro w' ⟨s0, s1, s2, s3, s4, s5, s6, s7, s8⟩
    go_simp
    with_reducible rfl
  rotate_left
  · simp only [Act.put, List.setIfInBounds_toArray, List.set_cons_zero, List.set_cons_succ, i64_w, i32_w]
    rfl
  refine take_ (i := 6) (N := some 33) (v := ?_) (a' := ?_) #[true, true, true, true, true, true, true, false, false, false, true, false, true, false, false, true, true, false, true, false, false, false, false] rfl rfl (by kernel_rfl) (fun _ _ _ h => h) (Or.inl ⟨by rfl, ?_⟩) hHeld ?_ ?_
  rotate_left
  · rintro w' ⟨s0, s1, s2, s3, s4, s5, s6, s7, s8⟩
    refine load_run 25 (.tmp 5) ?_ gs ?_ 25 _ (0, 0) _ s0 Try.underlying25 ?_ ?_
    · rfl
    · rfl
    · rfl
    · rw [hsz]; kernel_rfl
  rotate_left
  · simp only [Act.put, List.setIfInBounds_toArray, List.set_cons_zero, List.set_cons_succ, i64_w, i32_w]
    rfl
  refine take_ (i := 11) (N := some 38) (v := ?_) (a' := ?_) #[true, true, true, true, true, true, true, false, false, false, true, true, true, false, false, true, true, false, true, false, false, false, false] rfl rfl (by kernel_rfl) (fun _ _ _ h => h) (Or.inl ⟨by rfl, ?_⟩) hHeld ?_ ?_
  rotate_left
  · rintro w' ⟨s0, s1, s2, s3, s4, s5, s6, s7, s8⟩
    go_simp
    with_reducible rfl
  rotate_left
  · simp only [Act.put, List.setIfInBounds_toArray, List.set_cons_zero, List.set_cons_succ, i64_w, i32_w]
    rfl
  refine take_ (i := 13) (N := some 40) (v := ?_) (a' := ?_) #[true, true, true, true, true, true, true, false, false, false, true, true, true, true, false, true, true, false, true, false, false, false, false] rfl rfl (by kernel_rfl) (fun _ _ _ h => h) (Or.inl ⟨by rfl, ?_⟩) hHeld ?_ ?_
  rotate_left
  · rintro w' ⟨s0, s1, s2, s3, s4, s5, s6, s7, s8⟩
    refine load_run 25 (.tmp 5) ?_ gs ?_ 25 _ (0, 0) _ s0 Try.underlying25 ?_ ?_
    · rfl
    · rfl
    · rfl
    · rw [hsz]; kernel_rfl
  rotate_left
  · simp only [Act.put, List.setIfInBounds_toArray, List.set_cons_zero, List.set_cons_succ, i64_w, i32_w]
    rfl
  refine take_ (i := 17) (N := some 44) (v := ?_) (a' := ?_) #[true, true, true, true, true, true, true, false, false, false, true, true, true, true, false, true, true, true, true, false, false, false, false] rfl rfl (by kernel_rfl) (fun _ _ _ h => h) (Or.inl ⟨by rfl, ?_⟩) hHeld ?_ ?_
  rotate_left
  · rintro w' ⟨s0, s1, s2, s3, s4, s5, s6, s7, s8⟩
    go_simp
    with_reducible rfl
  rotate_left
  · simp only [Act.put, List.setIfInBounds_toArray, List.set_cons_zero, List.set_cons_succ, i64_w, i32_w]
    rfl
  refine take_ (i := 19) (N := some 46) (v := ?_) (a' := ?_) #[true, true, true, true, true, true, true, false, false, false, true, true, true, true, false, true, true, true, true, true, false, false, false] rfl rfl (by kernel_rfl) (fun _ _ _ h => h) (Or.inl ⟨by rfl, ?_⟩) hHeld ?_ ?_
  rotate_left
  · rintro w' ⟨s0, s1, s2, s3, s4, s5, s6, s7, s8⟩
    go_simp
    with_reducible rfl
  rotate_left
  · simp only [Act.put, List.setIfInBounds_toArray, List.set_cons_zero, List.set_cons_succ, i64_w, i32_w]
    rfl
  refine one_ (i := 7) (N := some 34) #[true, true, true, true, true, true, true, true, false, false, true, true, true, true, false, true, true, true, true, true, false, false, false] rfl rfl (by kernel_rfl) (by decide) (fun K hK => ?_)
  refine goes_ Try.func62 (by kernel_rfl) rfl #[.agg a] (by rfl) rfl rfl (by simp only [List.map_toArray, List.map_cons, List.map_nil]; rfl) ?_
  with_reducible refine (KCS.out _).mono ?_
  rintro e w7 ⟨rfl, hb⟩
  refine ⟨_, rfl, ?_⟩
  refine hK.out _ _ ⟨(blk_below hHeld.1 hb), (blk_cell (blk_below hHeld.1 hb) 71).trans A71.out, (blk_cell (blk_below hHeld.2.2.2.2.2.2.2.1 hb) 1).trans AF1.out, (blk_cell (blk_below hHeld.2.2.2.2.2.2.2.1 hb) 3).trans AF3.out, (blk_cell (blk_below hHeld.2.2.2.2.2.2.2.1 hb) 4).trans AF4.out, (blk_cell (blk_below hHeld.2.2.2.2.2.2.2.1 hb) 5).trans AF5.out, (blk_cell (blk_below hHeld.2.2.2.2.2.2.2.1 hb) 7).trans AF7.out, (blk_below hHeld.2.2.2.2.2.2.2.1 hb), (below_step hHeld.2.2.2.2.2.2.2.2 hb)⟩ (fun hHeld => ?_)
  clear hK K
  refine norm_ (a' := ?_) ?_ ?_
  rotate_left
  · show Act.put _ (some 34) _ = _
    simp only [Act.put, List.setIfInBounds_toArray, List.set_cons_zero, List.set_cons_succ, i64_w, i32_w]
    rfl
  refine one_ (i := 8) (N := some 35) #[true, true, true, true, true, true, true, true, true, false, true, true, true, true, false, true, true, true, true, true, false, false, false] rfl rfl (by kernel_rfl) (by decide) (fun K hK => ?_)
  refine goes_ Try.func61 (by kernel_rfl) rfl #[.int .i64 sz] (by rfl) rfl rfl (by simp only [List.map_toArray, List.map_cons, List.map_nil]; rfl) ?_
  with_reducible refine (KCA.out _).mono ?_
  rintro e w7 ⟨rfl, hb⟩
  refine ⟨_, rfl, ?_⟩
  refine hK.out _ _ ⟨(blk_below hHeld.1 hb), (blk_cell (blk_below hHeld.1 hb) 71).trans A71.out, (blk_cell (blk_below hHeld.2.2.2.2.2.2.2.1 hb) 1).trans AF1.out, (blk_cell (blk_below hHeld.2.2.2.2.2.2.2.1 hb) 3).trans AF3.out, (blk_cell (blk_below hHeld.2.2.2.2.2.2.2.1 hb) 4).trans AF4.out, (blk_cell (blk_below hHeld.2.2.2.2.2.2.2.1 hb) 5).trans AF5.out, (blk_cell (blk_below hHeld.2.2.2.2.2.2.2.1 hb) 7).trans AF7.out, (blk_below hHeld.2.2.2.2.2.2.2.1 hb), (below_step hHeld.2.2.2.2.2.2.2.2 hb)⟩ (fun hHeld => ?_)
  clear hK K
  refine norm_ (a' := ?_) ?_ ?_
  rotate_left
  · show Act.put _ (some 35) _ = _
    simp only [Act.put, List.setIfInBounds_toArray, List.set_cons_zero, List.set_cons_succ, i64_w, i32_w]
    rfl
  refine pure_ (i := 9) (N := some 36) (v := ?_) (a' := ?_) #[true, true, true, true, true, true, true, true, true, true, true, true, true, true, false, true, true, true, true, true, false, false, false] rfl rfl (by kernel_rfl) (fun _ _ _ h => h) (Or.inl ⟨by rfl, ?_⟩) ?_ ?_
  rotate_left
  · intro w'
    go_simp
    with_reducible rfl
  rotate_left
  · simp only [Act.put, List.setIfInBounds_toArray, List.set_cons_zero, List.set_cons_succ, i64_w, i32_w]
    rfl
  refine one_ (i := 14) (N := some 41) #[true, true, true, true, true, true, true, true, true, true, true, true, true, true, true, true, true, true, true, true, false, false, false] rfl rfl (by kernel_rfl) (by decide) (fun K hK => ?_)
  refine goes_ Try.func62 (by kernel_rfl) rfl #[.agg a] (by rfl) rfl rfl (by simp only [List.map_toArray, List.map_cons, List.map_nil]; rfl) ?_
  with_reducible refine (KCS.out _).mono ?_
  rintro e w7 ⟨rfl, hb⟩
  refine ⟨_, rfl, ?_⟩
  refine hK.out _ _ ⟨(blk_below hHeld.1 hb), (blk_cell (blk_below hHeld.1 hb) 71).trans A71.out, (blk_cell (blk_below hHeld.2.2.2.2.2.2.2.1 hb) 1).trans AF1.out, (blk_cell (blk_below hHeld.2.2.2.2.2.2.2.1 hb) 3).trans AF3.out, (blk_cell (blk_below hHeld.2.2.2.2.2.2.2.1 hb) 4).trans AF4.out, (blk_cell (blk_below hHeld.2.2.2.2.2.2.2.1 hb) 5).trans AF5.out, (blk_cell (blk_below hHeld.2.2.2.2.2.2.2.1 hb) 7).trans AF7.out, (blk_below hHeld.2.2.2.2.2.2.2.1 hb), (below_step hHeld.2.2.2.2.2.2.2.2 hb)⟩ (fun hHeld => ?_)
  clear hK K
  refine norm_ (a' := ?_) ?_ ?_
  rotate_left
  · show Act.put _ (some 41) _ = _
    simp only [Act.put, List.setIfInBounds_toArray, List.set_cons_zero, List.set_cons_succ, i64_w, i32_w]
    rfl
  refine pure_ (i := 20) (N := some 47) (v := ?_) (a' := ?_) #[true, true, true, true, true, true, true, true, true, true, true, true, true, true, true, true, true, true, true, true, true, false, false] rfl rfl (by kernel_rfl) (fun _ _ _ h => h) (Or.inl ⟨by rfl, ?_⟩) ?_ ?_
  rotate_left
  · intro w'
    go_simp
    with_reducible rfl
  rotate_left
  · simp only [Act.put, List.setIfInBounds_toArray, List.set_cons_zero, List.set_cons_succ, i64_w, i32_w]
    rfl
  refine last_ (i := 21) (N := some 48) #[true, true, true, true, true, true, true, true, true, true, true, true, true, true, true, true, true, true, true, true, true, true, false] rfl rfl (by kernel_rfl) (by decide) (fun K hK => ?_)
  have HBh := Aside0.mk hHeld.2.2.2.2.2.2.2.2
  refine Kd.R_lit_step k45 (w0 := w) w.heap.size 45 ?hg (N := 48) ?hd (xs := ([⟨2, f.f1, f.x, wrap64 (f.y + asc), f.w, sp, col, sz, f.text⟩] : List S45)) (inner := [.int .i64 2, .int .i64 f.f1, .int .i64 f.x, .int .i64 (wrap64 (f.y + asc)), .int .i64 f.w, .int .i64 sp, .int .i64 col, .int .i64 sz, .string f.text]) (ok := fun _ => True) (okp := fun _ => True) ?hr ?hp (fun _ hk => hk) trivial HBh.out (below_size HBh.out) (by simp) ?_; (case hd => rfl); (case hg => rfl); (case hr => first | (go_simp; done) | (go_simp; rfl)); (case hp => exact Reps.c9 (show Kd.M k45 _ _ _ (⟨2, f.f1, f.x, wrap64 (f.y + asc), f.w, sp, col, sz, f.text⟩ : S45) [.int .i64 2, .int .i64 f.f1, .int .i64 f.x, .int .i64 (wrap64 (f.y + asc)), .int .i64 f.w, .int .i64 sp, .int .i64 col, .int .i64 sz, .string f.text] from k45_mkM _ _ _ (⟨2, f.f1, f.x, wrap64 (f.y + asc), f.w, sp, col, sz, f.text⟩)) (Reps.none _ _))
  intro v9 w9 hr9 hb9 hg9 hat9
  have HR9 := Aside0.mk hr9
  have HB9 := Aside0.mk hb9
  clear hr9 hb9 hg9 hat9
  refine hK.out _ _ ?_
  clear hK K
  refine norm_ (a' := ?_) ?_ ?_
  rotate_left
  · show Act.put _ (some 48) _ = _
    simp only [Act.put, List.setIfInBounds_toArray, List.set_cons_zero, List.set_cons_succ, i64_w, i32_w]
    rfl
  refine pure_ (i := 22) (N := some 6) (v := ?_) (a' := ?_) #[true, true, true, true, true, true, true, true, true, true, true, true, true, true, true, true, true, true, true, true, true, true, true] rfl rfl (by kernel_rfl) (fun _ _ _ h => h) (Or.inl ⟨by rfl, ?_⟩) ?_ ?_
  rotate_left
  · intro w'
    go_simp
    with_reducible rfl
  rotate_left
  · simp only [Act.put, List.setIfInBounds_toArray, List.set_cons_zero, List.set_cons_succ, i64_w, i32_w]
    rfl
  refine done_ (by kernel_rfl) ?_
  go_wp2
  go_ret
  exact ⟨_, rfl, HR9.out, HB9.out⟩
end Go.Proofs.Ytaejmgdpnnhpmaa.QSty
