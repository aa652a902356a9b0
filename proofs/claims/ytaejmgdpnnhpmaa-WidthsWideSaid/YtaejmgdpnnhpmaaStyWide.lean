/- widths.Wide, walked by hand. -/
import Derived.Test.YtaejmgdpnnhpmaaStyAcross
namespace Go.Proofs.Ytaejmgdpnnhpmaa.QSty
open Go.RowKit Go.Proofs.YtaejmgdpnnhpmaaW.PrintWords Go.Proofs.YtaejmgdpnnhpmaaW.PrintLast Go.Proofs.YtaejmgdpnnhpmaaW.PrintMore
attribute [local go_sem] max2_int min2_int max_two min_two
set_option linter.unusedVariables false
set_option linter.unusedSimpArgs false
/-- What is left, and right, of a rest. -/
def sides (k14 k12 rest f3 f1 : Int) : Int × Int := if k14 = 6 ∧ k12 = 6 ∧ rest > 0 then (part rest 1 2, wrap64 (rest - part rest 1 2)) else if k14 = 6 ∧ ¬ k12 = 6 then (rest, f1) else (f3, wrap64 (f1 + rest))
def told_ (xs : List Int) (room : Int) : Int := btold xs room (rimof xs room) (wrap64 (wrap64 (wrap64 (room - edg1 xs (11 + 3) room) - edg1 xs (11 + 1) room) - rimof xs room))
def rest_ (xs : List Int) (room : Int) : Int := wrap64 (wrap64 (wrap64 (wrap64 (room - told_ xs room) - rimof xs room) - edg1 xs (11 + 3) room) - edg1 xs (11 + 1) room)
def wideof (xs : List Int) (room : Int) : Value :=
  .tuple #[.int .i64 (cut (sides (xs.getD 28 0) (xs.getD 24 0) (rest_ xs room) (edg1 xs (11 + 3) room) (edg1 xs (11 + 1) room)).1), .int .i64 (cut (told_ xs room)), .int .i64 (cut (sides (xs.getD 28 0) (xs.getD 24 0) (rest_ xs room) (edg1 xs (11 + 3) room) (edg1 xs (11 + 1) room)).2)]
set_option maxHeartbeats 8000000 in
set_option maxRecDepth 100000 in
theorem widths_Wide.calls (xs : List Int) (room0 : Int) (hl : xs.length = 118) (w : World) :
    Calls Try.prog 18 #[sty xs, .int .i64 room0] w fun e w' => e = .returned (wideof xs (cut room0)) ∧ Below w.heap.size w w' := by
  have CC := fun n w => fix_Cut.calls n _ w (cut_a n)
  have CP := fun n w => fix_Part.calls n 1 2 _ w (part_a n 1 2)
  have C0 := CC room0
  obtain ⟨room, hroom⟩ : ∃ r, cut room0 = r := ⟨_, rfl⟩
  rw [hroom] at C0 ⊢
  clear hroom
  have CA := fun w => widths_across.calls xs room hl w
  unfold wideof rest_
  have CT := fun n w => widths_told.calls xs room (rimof xs room) n hl w
  have E2 : Aside0 ((bnd xs room (rimof xs room))[119]? = some (.int .i64 (rimof xs room))) := ⟨bnd_end hl room _ 1⟩
  have hbs := bnd_size hl room (rimof xs room)
  have hone : (bnd xs room (rimof xs room)).all (·.oneCell') = true := all_oneCell_toArray (by intro v hv; simp [nums] at hv; rcases hv with ⟨n, _, rfl⟩ | rfl | rfl | rfl | rfl | rfl | rfl <;> rfl)
  have hT : btold xs room (rimof xs room) (wrap64 (wrap64 (wrap64 (room - edg1 xs (11 + 3) room) - edg1 xs (11 + 1) room) - rimof xs room)) = told_ xs room := rfl
  have hedg : edg xs 11 room = .agg #[.int .i64 (edg1 xs 11 room), .int .i64 (edg1 xs (11 + 1) room), .int .i64 (edg1 xs (11 + 2) room), .int .i64 (edg1 xs (11 + 3) room)] := rfl
  rw [hedg] at CA
  clear hedg
  obtain ⟨td, htd⟩ : ∃ t, told_ xs room = t := ⟨_, rfl⟩
  rw [htd] at hT ⊢
  clear htd
  obtain ⟨f0, hf0⟩ : ∃ v, edg1 xs 11 room = v := ⟨_, rfl⟩
  obtain ⟨f1, hf1⟩ : ∃ v, edg1 xs (11 + 1) room = v := ⟨_, rfl⟩
  obtain ⟨f2, hf2⟩ : ∃ v, edg1 xs (11 + 2) room = v := ⟨_, rfl⟩
  obtain ⟨f3, hf3⟩ : ∃ v, edg1 xs (11 + 3) room = v := ⟨_, rfl⟩
  rw [hf0, hf1, hf2, hf3] at CA
  rw [hf1, hf3] at hT ⊢
  clear hf0 hf1 hf2 hf3
  obtain ⟨rim, hm⟩ : ∃ r, rimof xs room = r := ⟨_, rfl⟩
  rw [hm] at CA CT E2 hbs hone hT ⊢
  clear hm
  have CT1 := CT (wrap64 (wrap64 (wrap64 (room - f3) - f1) - rim))
  rw [hT] at CT1
  clear CT hT
  obtain ⟨c, hc⟩ : ∃ c, bnd xs room rim = c := ⟨_, rfl⟩
  rw [hc] at CA CT1 E2 hbs hone
  clear hc
  obtain ⟨rest, hrest⟩ : ∃ r, wrap64 (wrap64 (wrap64 (wrap64 (room - td) - rim) - f3) - f1) = r := ⟨_, rfl⟩
  rw [hrest]
  have HREST := Aside0.mk hrest
  clear hrest
  unfold sty at *
  obtain ⟨a, ha⟩ : ∃ a, (nums .i64 xs).toArray = a := ⟨_, rfl⟩
  have hsz : a.size = 118 := by rw [← ha]; simp [nums, hl]
  have A28 : Aside0 (a[28]? = some (.int .i64 (xs.getD 28 0))) := ⟨by rw [← ha]; simp [nums, hl]⟩
  have A24 : Aside0 (a[24]? = some (.int .i64 (xs.getD 24 0))) := ⟨by rw [← ha]; simp [nums, hl]⟩
  rw [ha] at CA ⊢
  clear ha hl
  obtain ⟨k14, hk14⟩ : ∃ k, xs.getD 28 0 = k := ⟨_, rfl⟩
  obtain ⟨k12, hk12⟩ : ∃ k, xs.getD 24 0 = k := ⟨_, rfl⟩
  rw [hk14] at A28 ⊢
  rw [hk12] at A24 ⊢
  clear hk14 hk12
  obtain ⟨l, r, hs⟩ : ∃ l r, sides k14 k12 rest f3 f1 = (l, r) := ⟨_, _, rfl⟩
  rw [hs]
  have HS := Aside0.mk hs
  clear hs
  have KC := Aside0.mk CC
  have KP := Aside0.mk CP
  have K0 := Aside0.mk C0
  have KA := Aside0.mk CA
  have KT := Aside0.mk CT1
  have HBS := Aside0.mk hbs
  have HONE := Aside0.mk hone
  clear CC CP C0 CA CT1 hbs hone
  have HB := Aside0.mk (Below.refl w.heap.size w)
  go_enter Try.func18, Try.ntmps18
  go_wp2_with (first
    | ((with_reducible refine gate_dst (N := 2) rfl ?_); refine box_event rfl (N := 2) rfl (cs := a) (t := 25) (by first | (go_simp; done) | (go_simp; rfl)) ?_; intro gs hg_ w1 hbx hb; have KS1 := Aside0.mk hbx; have HB1 := Aside0.mk (below_step HB.out hb); clear hg_ hbx hb)
    | (go_at_call 51; (with_reducible refine (K0.out _).mono ?_); rintro e w2 ⟨rfl, hb⟩; have KS2 := Aside0.mk (blk_below KS1.out hb); have HB2 := Aside0.mk (below_step HB1.out hb); clear hb)
    | ((with_reducible refine gate_dst (N := 15) rfl ?_); refine wpList_load_row rfl 25 _ rfl gs rfl 25 _ (0, 0) _ KS2.out Try.underlying25 rfl (by rw [hsz]; kernel_rfl) ?_)
    | (go_at_call 52; (with_reducible refine (KA.out _).mono ?_); rintro e w3 ⟨rfl, hb⟩; have KS3 := Aside0.mk (blk_below KS2.out hb); have HB3 := Aside0.mk (below_step HB2.out hb); clear hb)
    | ((with_reducible refine gate_dst (N := 7) rfl ?_); refine box_event rfl (N := 7) rfl (cs := zbnd) (t := 80) (by first | (go_simp; done) | (go_simp; rfl)) ?_; intro g7 hg_ w4 hbx hb; have K7_4 := Aside0.mk hbx; have B7 := Aside0.mk (show w.heap.size ≤ g7 by have := HB3.out.size; omega); have KS4 := Aside0.mk (blk_below KS3.out hb); have N7 : gs ≠ g7 := (by have h1 := blk_lt KS3.out; omega); have HB4 := Aside0.mk (below_step HB3.out hb); clear hg_ hbx hb)
    | ((with_reducible refine gate_dst (N := 8) rfl ?_); refine box_event rfl (N := 8) rfl (cs := #[.int .i64 0, .int .i64 0, .int .i64 0, .int .i64 0]) (t := 28) (by first | (go_simp; done) | (go_simp; rfl)) ?_; intro g8 hg_ w5 hbx hb; have K8_5 := Aside0.mk hbx; have B8 := Aside0.mk (show w.heap.size ≤ g8 by have := HB4.out.size; omega); have K7_5 := Aside0.mk (blk_below K7_4.out hb); have KS5 := Aside0.mk (blk_below KS4.out hb); have N8 : gs ≠ g8 := (by have h1 := blk_lt KS4.out; omega); have N78 : g7 ≠ g8 := (by have h1 := blk_lt K7_4.out; omega); have HB5 := Aside0.mk (below_step HB4.out hb); clear hg_ hbx hb)
    | (refine wpList_store_mid rfl 80 (.tmp 7) (.tmp 18) rfl g7 0 c rfl rfl (there_row (cs := zbnd) K7_5.out _ (by rw [HBS.out]; decide)) (by rw [HBS.out]; kernel_rfl) HONE.out ?_; have K7_6 := Aside0.mk (sets_row (vs := c) K7_5.out (by rw [HBS.out]; rfl)); have KS6 := Aside0.mk ((sets_far N7 c.toList 0 w5).trans KS5.out); have K8_6 := Aside0.mk ((sets_far N78.symm c.toList 0 w5).trans K8_5.out); have HB6 := Aside0.mk (sets_below B7.out c.toList 0 w5 HB5.out); generalize w5.setCells g7 0 c.toList = w6 at K7_6 KS6 K8_6 HB6 ⊢; have z0 : w6.cell? ⟨g8, 0, none⟩ = some (.int .i64 0) := (blk_cell K8_6.out 0).trans rfl; have y0 := blk_frozen K8_6.out 0; have z1 : w6.cell? ⟨g8, 1, none⟩ = some (.int .i64 0) := (blk_cell K8_6.out 1).trans rfl; have y1 := blk_frozen K8_6.out 1; have z2 : w6.cell? ⟨g8, 2, none⟩ = some (.int .i64 0) := (blk_cell K8_6.out 2).trans rfl; have y2 := blk_frozen K8_6.out 2; have z3 : w6.cell? ⟨g8, 3, none⟩ = some (.int .i64 0) := (blk_cell K8_6.out 3).trans rfl; have y3 := blk_frozen K8_6.out 3)
    | ((with_reducible refine gate_dst (N := 20) rfl ?_); have KS7 : Aside0 (((((w6.setCell ⟨g8, 0, none⟩ (.int .i64 f0)).setCell ⟨g8, 1, none⟩ (.int .i64 f1)).setCell ⟨g8, 2, none⟩ (.int .i64 f2)).setCell ⟨g8, 3, none⟩ (.int .i64 f3)).heap[gs]? = _) := ⟨blk_far (blk_far (blk_far (blk_far KS6.out N8 _) N8 _) N8 _) N8 _⟩; have K7_7 : Aside0 (((((w6.setCell ⟨g8, 0, none⟩ (.int .i64 f0)).setCell ⟨g8, 1, none⟩ (.int .i64 f1)).setCell ⟨g8, 2, none⟩ (.int .i64 f2)).setCell ⟨g8, 3, none⟩ (.int .i64 f3)).heap[g7]? = _) := ⟨blk_far (blk_far (blk_far (blk_far K7_6.out N78 _) N78 _) N78 _) N78 _⟩; have K8_7 : Aside0 (((((w6.setCell ⟨g8, 0, none⟩ (.int .i64 f0)).setCell ⟨g8, 1, none⟩ (.int .i64 f1)).setCell ⟨g8, 2, none⟩ (.int .i64 f2)).setCell ⟨g8, 3, none⟩ (.int .i64 f3)).heap[g8]? = some (.cells #[.int .i64 f0, .int .i64 f1, .int .i64 f2, .int .i64 f3] 28 (0, 0))) := ⟨blk_put (blk_put (blk_put (blk_put K8_6.out 0 (.int .i64 f0) rfl) 1 (.int .i64 f1) rfl) 2 (.int .i64 f2) rfl) 3 (.int .i64 f3) rfl⟩; have HB7 : Aside0 (Below w.heap.size w ((((w6.setCell ⟨g8, 0, none⟩ (.int .i64 f0)).setCell ⟨g8, 1, none⟩ (.int .i64 f1)).setCell ⟨g8, 2, none⟩ (.int .i64 f2)).setCell ⟨g8, 3, none⟩ (.int .i64 f3))) := ⟨(((HB6.out.setCell B8.out _).setCell B8.out _).setCell B8.out _).setCell B8.out _⟩; clear z0 z1 z2 z3 y0 y1 y2 y3; generalize ((((w6.setCell ⟨g8, 0, none⟩ (.int .i64 f0)).setCell ⟨g8, 1, none⟩ (.int .i64 f1)).setCell ⟨g8, 2, none⟩ (.int .i64 f2)).setCell ⟨g8, 3, none⟩ (.int .i64 f3)) = w7 at KS7 K7_7 K8_7 HB7 ⊢; have v3 : w7.cell? ⟨g8, 3, none⟩ = some (.int .i64 f3) := (blk_cell K8_7.out 3).trans rfl; have v1 : w7.cell? ⟨g8, 1, none⟩ = some (.int .i64 f1) := (blk_cell K8_7.out 1).trans rfl; have vr : w7.cell? ⟨g7, 119, none⟩ = some (.int .i64 rim) := (blk_cell K7_7.out 119).trans E2.out; refine wpList_load_row rfl 80 _ rfl g7 rfl 80 _ (0, 0) _ K7_7.out Try.underlying80 rfl (by rw [HBS.out]; kernel_rfl) ?_)
    | (go_at_call 53; (with_reducible refine (KT.out _).mono ?_); rintro e w8 ⟨rfl, hb⟩; have KS8 := Aside0.mk (blk_below KS7.out hb); have K7_8 := Aside0.mk (blk_below K7_7.out hb); have K8_8 := Aside0.mk (blk_below K8_7.out hb); have HB8 := Aside0.mk (below_step HB7.out hb); clear hb; clear v3 v1 vr; have v3 : w8.cell? ⟨g8, 3, none⟩ = some (.int .i64 f3) := (blk_cell K8_8.out 3).trans rfl; have v1 : w8.cell? ⟨g8, 1, none⟩ = some (.int .i64 f1) := (blk_cell K8_8.out 1).trans rfl; have vr : w8.cell? ⟨g7, 119, none⟩ = some (.int .i64 rim) := (blk_cell K7_8.out 119).trans E2.out))
  have u14 : w8.cell? ⟨gs, 28, none⟩ = some (.int .i64 k14) := (blk_cell KS8.out 28).trans A28.out
  have u12 : w8.cell? ⟨gs, 24, none⟩ = some (.int .i64 k12) := (blk_cell KS8.out 24).trans A24.out
  rw [HREST.out]
  clear vr HREST
  refine start_ (n := 10) (S := fun w' => w'.cell? ⟨gs, 28, none⟩ = some (.int .i64 k14) ∧ w'.cell? ⟨gs, 24, none⟩ = some (.int .i64 k12) ∧ w'.cell? ⟨g8, 3, none⟩ = some (.int .i64 f3) ∧ w'.cell? ⟨g8, 1, none⟩ = some (.int .i64 f1) ∧ Below w.heap.size w w') (ds := []) #[false, false, false, false, false, false, false, false, false, false] (by kernel_rfl) rfl rfl ⟨u14, u12, v3, v1, below_drew1 HB8.out⟩ (fun hHeld => ?_)
  refine pure_ (i := 0) (N := some 44) (v := ?_) (a' := ?_) #[true, false, false, false, false, false, false, false, false, false] rfl rfl (by kernel_rfl) (fun _ _ _ h => h) (Or.inl ⟨by rfl, ?_⟩) ?_ ?_
  rotate_left
  · intro w'
    go_simp
    with_reducible rfl
  rotate_left
  · simp only [Act.put, List.setIfInBounds_toArray, List.set_cons_zero, List.set_cons_succ, i64_w, i32_w]
    rfl
  refine pure_ (i := 1) (N := some 45) (v := ?_) (a' := ?_) #[true, true, false, false, false, false, false, false, false, false] rfl rfl (by kernel_rfl) (fun _ _ _ h => h) (Or.inl ⟨by rfl, ?_⟩) ?_ ?_
  rotate_left
  · intro w'
    go_simp
    with_reducible rfl
  rotate_left
  · simp only [Act.put, List.setIfInBounds_toArray, List.set_cons_zero, List.set_cons_succ, i64_w, i32_w]
    rfl
  refine pure_ (i := 4) (N := some 48) (v := ?_) (a' := ?_) #[true, true, false, false, true, false, false, false, false, false] rfl rfl (by kernel_rfl) (fun _ _ _ h => h) (Or.inl ⟨by rfl, ?_⟩) ?_ ?_
  rotate_left
  · intro w'
    go_simp
    with_reducible rfl
  rotate_left
  · simp only [Act.put, List.setIfInBounds_toArray, List.set_cons_zero, List.set_cons_succ, i64_w, i32_w]
    rfl
  refine pure_ (i := 5) (N := some 49) (v := ?_) (a' := ?_) #[true, true, false, false, true, true, false, false, false, false] rfl rfl (by kernel_rfl) (fun _ _ _ h => h) (Or.inl ⟨by rfl, ?_⟩) ?_ ?_
  rotate_left
  · intro w'
    go_simp
    with_reducible rfl
  rotate_left
  · simp only [Act.put, List.setIfInBounds_toArray, List.set_cons_zero, List.set_cons_succ, i64_w, i32_w]
    rfl
  refine take_ (i := 2) (N := some 46) (v := ?_) (a' := ?_) #[true, true, true, false, true, true, false, false, false, false] rfl rfl (by kernel_rfl) (fun _ _ _ h => h) (Or.inl ⟨by rfl, ?_⟩) hHeld ?_ ?_
  rotate_left
  · rintro w' ⟨s0, s1, s2, s3, s4⟩
    go_simp
    with_reducible rfl
  rotate_left
  · simp only [Act.put, List.setIfInBounds_toArray, List.set_cons_zero, List.set_cons_succ, i64_w, i32_w]
    rfl
  refine pure_ (i := 3) (N := some 47) (v := ?_) (a' := ?_) #[true, true, true, true, true, true, false, false, false, false] rfl rfl (by kernel_rfl) (fun _ _ _ h => h) (Or.inl ⟨by rfl, ?_⟩) ?_ ?_
  rotate_left
  · intro w'
    go_simp
    with_reducible rfl
  rotate_left
  · simp only [Act.put, List.setIfInBounds_toArray, List.set_cons_zero, List.set_cons_succ, i64_w, i32_w]
    rfl
  refine pure_ (i := 8) (N := some 10) (v := ?_) (a' := ?_) #[true, true, true, true, true, true, false, false, true, false] rfl rfl (by kernel_rfl) (fun _ _ _ h => h) (Or.inl ⟨by rfl, ?_⟩) ?_ ?_
  rotate_left
  · intro w'
    go_simp
    with_reducible rfl
  rotate_left
  · simp only [Act.put, List.setIfInBounds_toArray, List.set_cons_zero, List.set_cons_succ, i64_w, i32_w]
    rfl
  refine take_ (i := 6) (N := some 50) (v := ?_) (a' := ?_) #[true, true, true, true, true, true, true, false, true, false] rfl rfl (by kernel_rfl) (fun _ _ _ h => h) (Or.inl ⟨by rfl, ?_⟩) hHeld ?_ ?_
  rotate_left
  · rintro w' ⟨s0, s1, s2, s3, s4⟩
    go_simp
    with_reducible rfl
  rotate_left
  · simp only [Act.put, List.setIfInBounds_toArray, List.set_cons_zero, List.set_cons_succ, i64_w, i32_w]
    rfl
  refine pure_ (i := 7) (N := some 51) (v := ?_) (a' := ?_) #[true, true, true, true, true, true, true, true, true, false] rfl rfl (by kernel_rfl) (fun _ _ _ h => h) (Or.inl ⟨by rfl, ?_⟩) ?_ ?_
  rotate_left
  · intro w'
    go_simp
    with_reducible rfl
  rotate_left
  · simp only [Act.put, List.setIfInBounds_toArray, List.set_cons_zero, List.set_cons_succ, i64_w, i32_w]
    rfl
  refine pure_ (i := 9) (N := some 11) (v := ?_) (a' := ?_) #[true, true, true, true, true, true, true, true, true, true] rfl rfl (by kernel_rfl) (fun _ _ _ h => h) (Or.inl ⟨by rfl, ?_⟩) ?_ ?_
  rotate_left
  · intro w'
    go_simp
    with_reducible rfl
  rotate_left
  · simp only [Act.put, List.setIfInBounds_toArray, List.set_cons_zero, List.set_cons_succ, i64_w, i32_w]
    rfl
  refine done_ (by kernel_rfl) ?_
  obtain ⟨x14, x12, x3, x1, xb⟩ := hHeld
  have HB9 := Aside0.mk xb
  clear xb x14 x12 u14 u12 v3 v1
  generalize w8.drew = w9 at x3 x1 HB9 ⊢
  go_wp2
  refine start_ (n := 6) (S := fun w' => w'.cell? ⟨g8, 3, none⟩ = some (.int .i64 f3) ∧ w'.cell? ⟨g8, 1, none⟩ = some (.int .i64 f1) ∧ Below w.heap.size w w') (ds := []) #[false, false, false, false, false, false] (by kernel_rfl) rfl rfl ⟨x3, x1, below_drew1 HB9.out⟩ (fun hHeld => ?_)
  refine pure_ (i := 0) (N := some 52) (v := ?_) (a' := ?_) #[true, false, false, false, false, false] rfl rfl (by kernel_rfl) (fun _ _ _ h => h) (Or.inl ⟨by rfl, ?_⟩) ?_ ?_
  rotate_left
  · intro w'
    go_simp
    with_reducible rfl
  rotate_left
  · simp only [Act.put, List.setIfInBounds_toArray, List.set_cons_zero, List.set_cons_succ, i64_w, i32_w]
    rfl
  refine pure_ (i := 2) (N := some 54) (v := ?_) (a' := ?_) #[true, false, true, false, false, false] rfl rfl (by kernel_rfl) (fun _ _ _ h => h) (Or.inl ⟨by rfl, ?_⟩) ?_ ?_
  rotate_left
  · intro w'
    go_simp
    with_reducible rfl
  rotate_left
  · simp only [Act.put, List.setIfInBounds_toArray, List.set_cons_zero, List.set_cons_succ, i64_w, i32_w]
    rfl
  refine take_ (i := 1) (N := some 53) (v := ?_) (a' := ?_) #[true, true, true, false, false, false] rfl rfl (by kernel_rfl) (fun _ _ _ h => h) (Or.inl ⟨by rfl, ?_⟩) hHeld ?_ ?_
  rotate_left
  · rintro w' ⟨s0, s1, s2⟩
    go_simp
    with_reducible rfl
  rotate_left
  · simp only [Act.put, List.setIfInBounds_toArray, List.set_cons_zero, List.set_cons_succ, i64_w, i32_w]
    rfl
  refine pure_ (i := 4) (N := some 4) (v := ?_) (a' := ?_) #[true, true, true, false, true, false] rfl rfl (by kernel_rfl) (fun _ _ _ h => h) (Or.inl ⟨by rfl, ?_⟩) ?_ ?_
  rotate_left
  · intro w'
    go_simp
    with_reducible rfl
  rotate_left
  · simp only [Act.put, List.setIfInBounds_toArray, List.set_cons_zero, List.set_cons_succ, i64_w, i32_w]
    rfl
  refine take_ (i := 3) (N := some 55) (v := ?_) (a' := ?_) #[true, true, true, true, true, false] rfl rfl (by kernel_rfl) (fun _ _ _ h => h) (Or.inl ⟨by rfl, ?_⟩) hHeld ?_ ?_
  rotate_left
  · rintro w' ⟨s0, s1, s2⟩
    go_simp
    with_reducible rfl
  rotate_left
  · simp only [Act.put, List.setIfInBounds_toArray, List.set_cons_zero, List.set_cons_succ, i64_w, i32_w]
    rfl
  refine pure_ (i := 5) (N := some 6) (v := ?_) (a' := ?_) #[true, true, true, true, true, true] rfl rfl (by kernel_rfl) (fun _ _ _ h => h) (Or.inl ⟨by rfl, ?_⟩) ?_ ?_
  rotate_left
  · intro w'
    go_simp
    with_reducible rfl
  rotate_left
  · simp only [Act.put, List.setIfInBounds_toArray, List.set_cons_zero, List.set_cons_succ, i64_w, i32_w]
    rfl
  refine done_ (by kernel_rfl) ?_
  obtain ⟨x3', x1', xb⟩ := hHeld
  have HB10 := Aside0.mk xb
  clear xb x3 x1 x3' x1'
  generalize w9.drew = w10 at HB10 ⊢
  by_cases c14 : k14 = 6 <;> by_cases c12 : k12 = 6 <;> by_cases cr : rest > 0
  all_goals
    have hs := HS.out
    unfold sides at hs
    simp [c14, c12, cr] at hs
    first | have b14 : (k14 == 6) = true := beq_iff_eq.mpr c14 | have b14 : (k14 == 6) = false := beq_eq_false_iff_ne.mpr c14
    first | have b12 : (k12 == 6) = true := beq_iff_eq.mpr c12 | have b12 : (k12 == 6) = false := beq_eq_false_iff_ne.mpr c12
    first | have br : decide (rest > 0) = true := decide_eq_true cr | have br : decide (rest > 0) = false := decide_eq_false cr
    clear c14 c12 cr HS
    obtain ⟨hl_, hr_⟩ := hs
    have HL_ := Aside0.mk hl_
    have HR_ := Aside0.mk hr_
    clear hl_ hr_
    go_wp2_with (first | (go_at_call 54; (with_reducible refine (KP.out _ _).mono ?_); rintro e w11 ⟨rfl, hb⟩; have n9_ := Aside0.mk (below_step HB10.out hb); clear HB10 hb; have HB10 := n9_; clear n9_) | (go_at_call 51; (with_reducible refine (KC.out _ _).mono ?_); rintro e w11 ⟨rfl, hb⟩; have n9_ := Aside0.mk (below_step HB10.out hb); clear HB10 hb; have HB10 := n9_; clear n9_))
    exact bodyPost_ret (results_list (rs := [.tmp 4, .tmp 5, .tmp 6]) rfl (by simp) (.tmp (.tmp (.tmp .nil)))) rfl ⟨by rw [← HL_.out, ← HR_.out]; rfl, HB10.out⟩
end Go.Proofs.Ytaejmgdpnnhpmaa.QSty
