/- What the print does not take for RasterFlat: Copy of commands, Meets, Eq of what is drawn (of equal lists); of raster.glyph nothing is told. -/
import Derived.Test.YtaejmgdpnnhpmaaQRasterFlatx0
namespace Go.Proofs.Ytaejmgdpnnhpmaa.QRasterFlat
open Go.RowKit Go.Proofs.YtaejmgdpnnhpmaaW.PrintWords Go.Proofs.YtaejmgdpnnhpmaaW.PrintLast Go.Proofs.YtaejmgdpnnhpmaaW.PrintMore
attribute [local go_sem] max2_int min2_int max_two min_two
set_option linter.unusedVariables false
set_option linter.unusedSimpArgs false
def raster_glyph.f (a0_0 : Int) (a0_1 : Int) (a0_2 : Int) (a0_3 : Int) (a0_4 : Int) (a0_5 : Int) (a0_6 : Int) (a0_7 : Int) (a0_8 : ByteArray) (a1 : Int) (a2 : Int) : Option (Bool) := none
theorem raster_glyph.calls (a0_0 : Int) (a0_1 : Int) (a0_2 : Int) (a0_3 : Int) (a0_4 : Int) (a0_5 : Int) (a0_6 : Int) (a0_7 : Int) (a0_8 : ByteArray) (a1 : Int) (a2 : Int) (r : Bool) (w : World) (h : raster_glyph.f a0_0 a0_1 a0_2 a0_3 a0_4 a0_5 a0_6 a0_7 a0_8 a1 a2 = some r) :
    Calls Try.prog 124 #[.agg #[.int .i64 a0_0, .int .i64 a0_1, .int .i64 a0_2, .int .i64 a0_3, .int .i64 a0_4, .int .i64 a0_5, .int .i64 a0_6, .int .i64 a0_7, .string a0_8], .int .i64 a1, .int .i64 a2] w fun e w' => e = .returned (.bool r) ∧ Below w.heap.size w w' := by
  cases h
def api_Cmd.f (l0 : List S45) : Option (List S45) := if l0.length ≤ 1000 then some l0 else none
set_option maxHeartbeats 8000000 in
set_option maxRecDepth 100000 in
theorem api_Cmd.calls (A0 : Option Addr) (c0 : Nat) (l0 : List S45) (r : List S45) (w : World) (hr0 : Kd.C k45 w A0 l0.length l0) (hc0 : l0.length ≤ c0) (h : api_Cmd.f l0 = some r) :
    Calls Try.prog 96 #[.slice A0 l0.length c0] w fun e w' => ∃ v0_, e = .returned v0_ ∧ k45.R 45 w' w.heap.size (fun _ => True) v0_ r ∧ Below w.heap.size w w' := by
  unfold api_Cmd.f at h
  split at h
  case isFalse => cases h
  rename_i hl
  obtain rfl := Option.some.inj h
  have HR := Aside0.mk hr0
  clear hr0 h
  have HB := Aside0.mk (Below.refl w.heap.size w)
  go_enter Try.func96, Try.ntmps96
  go_wp2_with ((with_reducible refine gate_builtin (b := .append) (xs := #[.const (.slice none 0 0), .tmp 3]) rfl ?_); at_builtin; refine Kd.R_append_rows k45 (w0 := w) w.heap.size rfl (.const (.slice none 0 0)) (.tmp 3) 46 45 (.agg #[(.int .i64 0), (.int .i64 0), (.int .i64 0), (.int .i64 0), (.int .i64 0), (.int .i64 0), (.int .i64 0), (.int .i64 0), (.string ⟨#[]⟩)]) 80 rfl Try.underlying46 info45 rfl (by decide) (by omega) (.slice none 0 0) [] l0 _ _ _ (fun _ => True) (fun _ => False) rfl rfl ?aO ?aR (fun _ _ h => h) (fun _ h => h.elim) ?aF ?aB ?aS ?aL ?_; (case aO => exact Kd.R_nil _ _ _ _ _); (case aR => exact HR.out); (case aF => exact fun _ _ => trivial); (case aB => exact HB.out); (case aS => exact Nat.le_refl _); (case aL => simp; omega); intro v1 w1 hv hb1 hg hat; have HV := Aside0.mk hv; have HB1 := Aside0.mk hb1; clear hv hb1 hg hat)
  go_ret
  exact ⟨_, rfl, HV.out, HB1.out⟩
def clerestoryref3_Meets.f (a0_0 : Int) (a0_1 : Int) (a0_2 : Int) (a0_3 : Int) (a1_0 : Int) (a1_1 : Int) (a1_2 : Int) (a1_3 : Int) : Option (Int × Int × Int × Int) :=
  if (wrap64 ((mn (wrap64 (a0_0 + a0_2)) (wrap64 (a1_0 + a1_2))) - (mx a0_0 a1_0))) < 1 then some (0, 0, 0, 0) else (if (wrap64 ((mn (wrap64 (a0_1 + a0_3)) (wrap64 (a1_1 + a1_3))) - (mx a0_1 a1_1))) < 1 then some (0, 0, 0, 0) else some (mx a0_0 a1_0, mx a0_1 a1_1, wrap64 ((mn (wrap64 (a0_0 + a0_2)) (wrap64 (a1_0 + a1_2))) - (mx a0_0 a1_0)), wrap64 ((mn (wrap64 (a0_1 + a0_3)) (wrap64 (a1_1 + a1_3))) - (mx a0_1 a1_1))))
set_option maxHeartbeats 8000000 in
set_option maxRecDepth 100000 in
theorem clerestoryref3_Meets.calls (a0_0 : Int) (a0_1 : Int) (a0_2 : Int) (a0_3 : Int) (a1_0 : Int) (a1_1 : Int) (a1_2 : Int) (a1_3 : Int) (r1 : Int) (r2 : Int) (r3 : Int) (r4 : Int) (w : World) (h : clerestoryref3_Meets.f a0_0 a0_1 a0_2 a0_3 a1_0 a1_1 a1_2 a1_3 = some (r1, r2, r3, r4)) :
    Calls Try.prog 95 #[.agg #[.int .i64 a0_0, .int .i64 a0_1, .int .i64 a0_2, .int .i64 a0_3], .agg #[.int .i64 a1_0, .int .i64 a1_1, .int .i64 a1_2, .int .i64 a1_3]] w fun e w' => e = .returned (.agg #[.int .i64 r1, .int .i64 r2, .int .i64 r3, .int .i64 r4]) ∧ Below w.heap.size w w' := by
  unfold clerestoryref3_Meets.f at h
  have HB := Aside0.mk (Below.refl w.heap.size w)
  obtain ⟨x, hx⟩ : ∃ x, mx a0_0 a1_0 = x := ⟨_, rfl⟩
  obtain ⟨y, hy⟩ : ∃ y, mx a0_1 a1_1 = y := ⟨_, rfl⟩
  obtain ⟨m, hm⟩ : ∃ m, mn (wrap64 (a0_0 + a0_2)) (wrap64 (a1_0 + a1_2)) = m := ⟨_, rfl⟩
  obtain ⟨n, hn⟩ : ∃ n, mn (wrap64 (a0_1 + a0_3)) (wrap64 (a1_1 + a1_3)) = n := ⟨_, rfl⟩
  rw [hx, hy, hm, hn] at h
  have hx_ : (if a0_0 < a1_0 then a1_0 else a0_0) = x := hx
  have hy_ : (if a0_1 < a1_1 then a1_1 else a0_1) = y := hy
  have hm_ : (if wrap64 (a1_0 + a1_2) < wrap64 (a0_0 + a0_2) then wrap64 (a1_0 + a1_2) else wrap64 (a0_0 + a0_2)) = m := hm
  have hn_ : (if wrap64 (a1_1 + a1_3) < wrap64 (a0_1 + a0_3) then wrap64 (a1_1 + a1_3) else wrap64 (a0_1 + a0_3)) = n := hn
  obtain ⟨W, hW⟩ : ∃ W, wrap64 (m - x) = W := ⟨_, rfl⟩
  obtain ⟨H, hH⟩ : ∃ H, wrap64 (n - y) = H := ⟨_, rfl⟩
  rw [hW, hH] at h
  have HH := Aside0.mk h
  clear h
  go_enter Try.func95, Try.ntmps95
  go_wp2_with (first | ((with_reducible refine gate_dst (N := 2) rfl ?_); refine box_event rfl (N := 2) rfl (cs := #[.int .i64 a0_0, .int .i64 a0_1, .int .i64 a0_2, .int .i64 a0_3]) (t := 70) (by first | (go_simp; done) | (go_simp; rfl)) ?_; intro g2 hg_ w1 hbx hb; have Kg2_1 := Aside0.mk hbx; have Bg2 := Aside0.mk (show w.heap.size ≤ g2 by have := HB.out.size; omega); have HB1 := Aside0.mk (below_step HB.out hb); clear hg_ hbx hb) | ((with_reducible refine gate_dst (N := 3) rfl ?_); refine box_event rfl (N := 3) rfl (cs := #[.int .i64 a1_0, .int .i64 a1_1, .int .i64 a1_2, .int .i64 a1_3]) (t := 70) (by first | (go_simp; done) | (go_simp; rfl)) ?_; intro g3 hg_ w2 hbx hb; have Kg3_2 := Aside0.mk hbx; have Bg3 := Aside0.mk (show w.heap.size ≤ g3 by have := HB1.out.size; omega); have Kg2_2 := Aside0.mk (blk_below Kg2_1.out hb); have Ng2g3 : g2 ≠ g3 := (by have h1 := blk_lt Kg2_1.out; omega); have HB2 := Aside0.mk (below_step HB1.out hb); clear hg_ hbx hb) | ((with_reducible refine gate_dst (N := 4) rfl ?_); refine box_event rfl (N := 4) rfl (cs := #[.int .i64 0, .int .i64 0, .int .i64 0, .int .i64 0]) (t := 70) (by first | (go_simp; done) | (go_simp; rfl)) ?_; intro g4 hg_ w3 hbx hb; have Kg4_3 := Aside0.mk hbx; have Bg4 := Aside0.mk (show w.heap.size ≤ g4 by have := HB2.out.size; omega); have Kg2_3 := Aside0.mk (blk_below Kg2_2.out hb); have Ng2g4 : g2 ≠ g4 := (by have h1 := blk_lt Kg2_2.out; omega); have Kg3_3 := Aside0.mk (blk_below Kg3_2.out hb); have Ng3g4 : g3 ≠ g4 := (by have h1 := blk_lt Kg3_2.out; omega); have HB3 := Aside0.mk (below_step HB2.out hb); clear hg_ hbx hb; have vg20 : w3.cell? ⟨g2, 0, none⟩ = some (.int .i64 a0_0) := (blk_cell Kg2_3.out 0).trans rfl; have vg21 : w3.cell? ⟨g2, 1, none⟩ = some (.int .i64 a0_1) := (blk_cell Kg2_3.out 1).trans rfl; have vg22 : w3.cell? ⟨g2, 2, none⟩ = some (.int .i64 a0_2) := (blk_cell Kg2_3.out 2).trans rfl; have vg23 : w3.cell? ⟨g2, 3, none⟩ = some (.int .i64 a0_3) := (blk_cell Kg2_3.out 3).trans rfl; have vg30 : w3.cell? ⟨g3, 0, none⟩ = some (.int .i64 a1_0) := (blk_cell Kg3_3.out 0).trans rfl; have vg31 : w3.cell? ⟨g3, 1, none⟩ = some (.int .i64 a1_1) := (blk_cell Kg3_3.out 1).trans rfl; have vg32 : w3.cell? ⟨g3, 2, none⟩ = some (.int .i64 a1_2) := (blk_cell Kg3_3.out 2).trans rfl; have vg33 : w3.cell? ⟨g3, 3, none⟩ = some (.int .i64 a1_3) := (blk_cell Kg3_3.out 3).trans rfl) | ((with_reducible refine gate_dst (N := 5) rfl ?_); refine box_event rfl (N := 5) rfl (cs := #[.int .i64 0, .int .i64 0, .int .i64 0, .int .i64 0]) (t := 70) (by first | (go_simp; done) | (go_simp; rfl)) ?_; intro g5 hg_ w4 hbx hb; have Kg5_4 := Aside0.mk hbx; have Bg5 := Aside0.mk (show w.heap.size ≤ g5 by have := HB3.out.size; omega); have Kg2_4 := Aside0.mk (blk_below Kg2_3.out hb); have Ng2g5 : g2 ≠ g5 := (by have h1 := blk_lt Kg2_3.out; omega); have Kg3_4 := Aside0.mk (blk_below Kg3_3.out hb); have Ng3g5 : g3 ≠ g5 := (by have h1 := blk_lt Kg3_3.out; omega); have Kg4_4 := Aside0.mk (blk_below Kg4_3.out hb); have Ng4g5 : g4 ≠ g5 := (by have h1 := blk_lt Kg4_3.out; omega); have HB4 := Aside0.mk (below_step HB3.out hb); clear hg_ hbx hb; have zg50 : w4.cell? ⟨g5, 0, none⟩ = some (.int .i64 0) := (blk_cell Kg5_4.out 0).trans rfl; have yg50 := blk_frozen Kg5_4.out 0; have zg51 : w4.cell? ⟨g5, 1, none⟩ = some (.int .i64 0) := (blk_cell Kg5_4.out 1).trans rfl; have yg51 := blk_frozen Kg5_4.out 1; have zg52 : w4.cell? ⟨g5, 2, none⟩ = some (.int .i64 0) := (blk_cell Kg5_4.out 2).trans rfl; have yg52 := blk_frozen Kg5_4.out 2; have zg53 : w4.cell? ⟨g5, 3, none⟩ = some (.int .i64 0) := (blk_cell Kg5_4.out 3).trans rfl; have yg53 := blk_frozen Kg5_4.out 3))
  have Kg2_5 : Aside0 (((((w4.setCell ⟨g5, 0, none⟩ (.int .i64 x)).setCell ⟨g5, 1, none⟩ (.int .i64 y)).setCell ⟨g5, 2, none⟩ (.int .i64 0)).setCell ⟨g5, 3, none⟩ (.int .i64 0)).heap[g2]? = _) := ⟨blk_far (blk_far (blk_far (blk_far Kg2_4.out Ng2g5 _) Ng2g5 _) Ng2g5 _) Ng2g5 _⟩
  have Kg3_5 : Aside0 (((((w4.setCell ⟨g5, 0, none⟩ (.int .i64 x)).setCell ⟨g5, 1, none⟩ (.int .i64 y)).setCell ⟨g5, 2, none⟩ (.int .i64 0)).setCell ⟨g5, 3, none⟩ (.int .i64 0)).heap[g3]? = _) := ⟨blk_far (blk_far (blk_far (blk_far Kg3_4.out Ng3g5 _) Ng3g5 _) Ng3g5 _) Ng3g5 _⟩
  have Kg4_5 : Aside0 (((((w4.setCell ⟨g5, 0, none⟩ (.int .i64 x)).setCell ⟨g5, 1, none⟩ (.int .i64 y)).setCell ⟨g5, 2, none⟩ (.int .i64 0)).setCell ⟨g5, 3, none⟩ (.int .i64 0)).heap[g4]? = _) := ⟨blk_far (blk_far (blk_far (blk_far Kg4_4.out Ng4g5 _) Ng4g5 _) Ng4g5 _) Ng4g5 _⟩
  have Kg5_5 : Aside0 (((((w4.setCell ⟨g5, 0, none⟩ (.int .i64 x)).setCell ⟨g5, 1, none⟩ (.int .i64 y)).setCell ⟨g5, 2, none⟩ (.int .i64 0)).setCell ⟨g5, 3, none⟩ (.int .i64 0)).heap[g5]? = some (.cells #[.int .i64 x, .int .i64 y, .int .i64 0, .int .i64 0] 70 (0, 0))) := ⟨blk_put (blk_put (blk_put (blk_put Kg5_4.out 0 (.int .i64 x) rfl) 1 (.int .i64 y) rfl) 2 (.int .i64 0) rfl) 3 (.int .i64 0) rfl⟩
  have HB5 : Aside0 (Below w.heap.size w ((((w4.setCell ⟨g5, 0, none⟩ (.int .i64 x)).setCell ⟨g5, 1, none⟩ (.int .i64 y)).setCell ⟨g5, 2, none⟩ (.int .i64 0)).setCell ⟨g5, 3, none⟩ (.int .i64 0))) := ⟨(((HB4.out.setCell Bg5.out _).setCell Bg5.out _).setCell Bg5.out _).setCell Bg5.out _⟩
  clear zg50 yg50 zg51 yg51 zg52 yg52 zg53 yg53 vg20 vg21 vg22 vg23 vg30 vg31 vg32 vg33
  generalize ((((w4.setCell ⟨g5, 0, none⟩ (.int .i64 x)).setCell ⟨g5, 1, none⟩ (.int .i64 y)).setCell ⟨g5, 2, none⟩ (.int .i64 0)).setCell ⟨g5, 3, none⟩ (.int .i64 0)) = w5 at Kg2_5 Kg3_5 Kg4_5 Kg5_5 HB5 ⊢
  have z2 : w5.cell? ⟨g5, 2, none⟩ = some (.int .i64 0) := (blk_cell Kg5_5.out 2).trans rfl
  have z3 : w5.cell? ⟨g5, 3, none⟩ = some (.int .i64 0) := (blk_cell Kg5_5.out 3).trans rfl
  have y2 : w5.frozen? ⟨g5, 2, none⟩ = false := blk_frozen Kg5_5.out 2
  have y3 : w5.frozen? ⟨g5, 3, none⟩ = false := blk_frozen Kg5_5.out 3
  refine start_ (n := 32) (S := fun w' => w'.cell? ⟨g2, 0, none⟩ = some (.int .i64 a0_0) ∧ w'.cell? ⟨g2, 1, none⟩ = some (.int .i64 a0_1) ∧ w'.cell? ⟨g2, 2, none⟩ = some (.int .i64 a0_2) ∧ w'.cell? ⟨g2, 3, none⟩ = some (.int .i64 a0_3) ∧ w'.cell? ⟨g3, 0, none⟩ = some (.int .i64 a1_0) ∧ w'.cell? ⟨g3, 1, none⟩ = some (.int .i64 a1_1) ∧ w'.cell? ⟨g3, 2, none⟩ = some (.int .i64 a1_2) ∧ w'.cell? ⟨g3, 3, none⟩ = some (.int .i64 a1_3) ∧ w'.cell? ⟨g5, 0, none⟩ = some (.int .i64 x) ∧ w'.cell? ⟨g5, 1, none⟩ = some (.int .i64 y)) (ds := []) #[false, false, false, false, false, false, false, false, false, false, false, false, false, false, false, false, false, false, false, false, false, false, false, false, false, false, false, false, false, false, false, false] (by kernel_rfl) rfl rfl ⟨(blk_cell Kg2_5.out 0).trans rfl, (blk_cell Kg2_5.out 1).trans rfl, (blk_cell Kg2_5.out 2).trans rfl, (blk_cell Kg2_5.out 3).trans rfl, (blk_cell Kg3_5.out 0).trans rfl, (blk_cell Kg3_5.out 1).trans rfl, (blk_cell Kg3_5.out 2).trans rfl, (blk_cell Kg3_5.out 3).trans rfl, (blk_cell Kg5_5.out 0).trans rfl, (blk_cell Kg5_5.out 1).trans rfl⟩ (fun hHeld => ?_)
  refine pure_ (i := 0) (N := some 17) (v := ?_) (a' := ?_) #[true, false, false, false, false, false, false, false, false, false, false, false, false, false, false, false, false, false, false, false, false, false, false, false, false, false, false, false, false, false, false, false] rfl rfl (by kernel_rfl) (fun _ _ _ h => h) (Or.inl ⟨by rfl, ?_⟩) ?_ ?_
  rotate_left
  · intro w'
    go_simp
    with_reducible rfl
  rotate_left
  · simp only [Act.put, List.setIfInBounds_toArray, List.set_cons_zero, List.set_cons_succ, i64_w, i32_w]
    rfl
  refine pure_ (i := 2) (N := some 19) (v := ?_) (a' := ?_) #[true, false, true, false, false, false, false, false, false, false, false, false, false, false, false, false, false, false, false, false, false, false, false, false, false, false, false, false, false, false, false, false] rfl rfl (by kernel_rfl) (fun _ _ _ h => h) (Or.inl ⟨by rfl, ?_⟩) ?_ ?_
  rotate_left
  · intro w'
    go_simp
    with_reducible rfl
  rotate_left
  · simp only [Act.put, List.setIfInBounds_toArray, List.set_cons_zero, List.set_cons_succ, i64_w, i32_w]
    rfl
  refine pure_ (i := 5) (N := some 22) (v := ?_) (a' := ?_) #[true, false, true, false, false, true, false, false, false, false, false, false, false, false, false, false, false, false, false, false, false, false, false, false, false, false, false, false, false, false, false, false] rfl rfl (by kernel_rfl) (fun _ _ _ h => h) (Or.inl ⟨by rfl, ?_⟩) ?_ ?_
  rotate_left
  · intro w'
    go_simp
    with_reducible rfl
  rotate_left
  · simp only [Act.put, List.setIfInBounds_toArray, List.set_cons_zero, List.set_cons_succ, i64_w, i32_w]
    rfl
  refine pure_ (i := 7) (N := some 24) (v := ?_) (a' := ?_) #[true, false, true, false, false, true, false, true, false, false, false, false, false, false, false, false, false, false, false, false, false, false, false, false, false, false, false, false, false, false, false, false] rfl rfl (by kernel_rfl) (fun _ _ _ h => h) (Or.inl ⟨by rfl, ?_⟩) ?_ ?_
  rotate_left
  · intro w'
    go_simp
    with_reducible rfl
  rotate_left
  · simp only [Act.put, List.setIfInBounds_toArray, List.set_cons_zero, List.set_cons_succ, i64_w, i32_w]
    rfl
  refine pure_ (i := 11) (N := some 28) (v := ?_) (a' := ?_) #[true, false, true, false, false, true, false, true, false, false, false, true, false, false, false, false, false, false, false, false, false, false, false, false, false, false, false, false, false, false, false, false] rfl rfl (by kernel_rfl) (fun _ _ _ h => h) (Or.inl ⟨by rfl, ?_⟩) ?_ ?_
  rotate_left
  · intro w'
    go_simp
    with_reducible rfl
  rotate_left
  · simp only [Act.put, List.setIfInBounds_toArray, List.set_cons_zero, List.set_cons_succ, i64_w, i32_w]
    rfl
  refine pure_ (i := 14) (N := some 31) (v := ?_) (a' := ?_) #[true, false, true, false, false, true, false, true, false, false, false, true, false, false, true, false, false, false, false, false, false, false, false, false, false, false, false, false, false, false, false, false] rfl rfl (by kernel_rfl) (fun _ _ _ h => h) (Or.inl ⟨by rfl, ?_⟩) ?_ ?_
  rotate_left
  · intro w'
    go_simp
    with_reducible rfl
  rotate_left
  · simp only [Act.put, List.setIfInBounds_toArray, List.set_cons_zero, List.set_cons_succ, i64_w, i32_w]
    rfl
  refine pure_ (i := 16) (N := some 33) (v := ?_) (a' := ?_) #[true, false, true, false, false, true, false, true, false, false, false, true, false, false, true, false, true, false, false, false, false, false, false, false, false, false, false, false, false, false, false, false] rfl rfl (by kernel_rfl) (fun _ _ _ h => h) (Or.inl ⟨by rfl, ?_⟩) ?_ ?_
  rotate_left
  · intro w'
    go_simp
    with_reducible rfl
  rotate_left
  · simp only [Act.put, List.setIfInBounds_toArray, List.set_cons_zero, List.set_cons_succ, i64_w, i32_w]
    rfl
  refine pure_ (i := 19) (N := some 36) (v := ?_) (a' := ?_) #[true, false, true, false, false, true, false, true, false, false, false, true, false, false, true, false, true, false, false, true, false, false, false, false, false, false, false, false, false, false, false, false] rfl rfl (by kernel_rfl) (fun _ _ _ h => h) (Or.inl ⟨by rfl, ?_⟩) ?_ ?_
  rotate_left
  · intro w'
    go_simp
    with_reducible rfl
  rotate_left
  · simp only [Act.put, List.setIfInBounds_toArray, List.set_cons_zero, List.set_cons_succ, i64_w, i32_w]
    rfl
  refine pure_ (i := 21) (N := some 38) (v := ?_) (a' := ?_) #[true, false, true, false, false, true, false, true, false, false, false, true, false, false, true, false, true, false, false, true, false, true, false, false, false, false, false, false, false, false, false, false] rfl rfl (by kernel_rfl) (fun _ _ _ h => h) (Or.inl ⟨by rfl, ?_⟩) ?_ ?_
  rotate_left
  · intro w'
    go_simp
    with_reducible rfl
  rotate_left
  · simp only [Act.put, List.setIfInBounds_toArray, List.set_cons_zero, List.set_cons_succ, i64_w, i32_w]
    rfl
  refine pure_ (i := 25) (N := some 42) (v := ?_) (a' := ?_) #[true, false, true, false, false, true, false, true, false, false, false, true, false, false, true, false, true, false, false, true, false, true, false, false, false, true, false, false, false, false, false, false] rfl rfl (by kernel_rfl) (fun _ _ _ h => h) (Or.inl ⟨by rfl, ?_⟩) ?_ ?_
  rotate_left
  · intro w'
    go_simp
    with_reducible rfl
  rotate_left
  · simp only [Act.put, List.setIfInBounds_toArray, List.set_cons_zero, List.set_cons_succ, i64_w, i32_w]
    rfl
  refine take_ (i := 1) (N := some 18) (v := ?_) (a' := ?_) #[true, true, true, false, false, true, false, true, false, false, false, true, false, false, true, false, true, false, false, true, false, true, false, false, false, true, false, false, false, false, false, false] rfl rfl (by kernel_rfl) (fun _ _ _ h => h) (Or.inl ⟨by rfl, ?_⟩) hHeld ?_ ?_
  rotate_left
  · rintro w' ⟨s0, s1, s2, s3, s4, s5, s6, s7, s8, s9⟩
    go_simp
    with_reducible rfl
  rotate_left
  · simp only [Act.put, List.setIfInBounds_toArray, List.set_cons_zero, List.set_cons_succ, i64_w, i32_w]
    rfl
  refine take_ (i := 3) (N := some 20) (v := ?_) (a' := ?_) #[true, true, true, true, false, true, false, true, false, false, false, true, false, false, true, false, true, false, false, true, false, true, false, false, false, true, false, false, false, false, false, false] rfl rfl (by kernel_rfl) (fun _ _ _ h => h) (Or.inl ⟨by rfl, ?_⟩) hHeld ?_ ?_
  rotate_left
  · rintro w' ⟨s0, s1, s2, s3, s4, s5, s6, s7, s8, s9⟩
    go_simp
    with_reducible rfl
  rotate_left
  · simp only [Act.put, List.setIfInBounds_toArray, List.set_cons_zero, List.set_cons_succ, i64_w, i32_w]
    rfl
  refine pure_ (i := 4) (N := some 21) (v := ?_) (a' := ?_) #[true, true, true, true, true, true, false, true, false, false, false, true, false, false, true, false, true, false, false, true, false, true, false, false, false, true, false, false, false, false, false, false] rfl rfl (by kernel_rfl) (fun _ _ _ h => h) (Or.inl ⟨by rfl, ?_⟩) ?_ ?_
  rotate_left
  · intro w'
    go_simp
    with_reducible rfl
  rotate_left
  · simp only [Act.put, List.setIfInBounds_toArray, List.set_cons_zero, List.set_cons_succ, i64_w, i32_w]
    rfl
  refine take_ (i := 6) (N := some 23) (v := ?_) (a' := ?_) #[true, true, true, true, true, true, true, true, false, false, false, true, false, false, true, false, true, false, false, true, false, true, false, false, false, true, false, false, false, false, false, false] rfl rfl (by kernel_rfl) (fun _ _ _ h => h) (Or.inl ⟨by rfl, ?_⟩) hHeld ?_ ?_
  rotate_left
  · rintro w' ⟨s0, s1, s2, s3, s4, s5, s6, s7, s8, s9⟩
    go_simp
    with_reducible rfl
  rotate_left
  · simp only [Act.put, List.setIfInBounds_toArray, List.set_cons_zero, List.set_cons_succ, i64_w, i32_w]
    rfl
  refine take_ (i := 8) (N := some 25) (v := ?_) (a' := ?_) #[true, true, true, true, true, true, true, true, true, false, false, true, false, false, true, false, true, false, false, true, false, true, false, false, false, true, false, false, false, false, false, false] rfl rfl (by kernel_rfl) (fun _ _ _ h => h) (Or.inl ⟨by rfl, ?_⟩) hHeld ?_ ?_
  rotate_left
  · rintro w' ⟨s0, s1, s2, s3, s4, s5, s6, s7, s8, s9⟩
    go_simp
    with_reducible rfl
  rotate_left
  · simp only [Act.put, List.setIfInBounds_toArray, List.set_cons_zero, List.set_cons_succ, i64_w, i32_w]
    rfl
  refine pure_ (i := 9) (N := some 26) (v := ?_) (a' := ?_) #[true, true, true, true, true, true, true, true, true, true, false, true, false, false, true, false, true, false, false, true, false, true, false, false, false, true, false, false, false, false, false, false] rfl rfl (by kernel_rfl) (fun _ _ _ h => h) (Or.inl ⟨by rfl, ?_⟩) ?_ ?_
  rotate_left
  · intro w'
    go_simp
    with_reducible rfl
  rotate_left
  · simp only [Act.put, List.setIfInBounds_toArray, List.set_cons_zero, List.set_cons_succ, i64_w, i32_w]
    rfl
  refine pure_ (i := 10) (N := some 27) (v := ?_) (a' := ?_) #[true, true, true, true, true, true, true, true, true, true, true, true, false, false, true, false, true, false, false, true, false, true, false, false, false, true, false, false, false, false, false, false] rfl rfl (by kernel_rfl) (fun _ _ _ h => h) (Or.inl ⟨by rfl, ?_⟩) ?_ ?_
  rotate_left
  · intro w'
    go_simp
    with_reducible rfl
  rotate_left
  · simp only [Act.put, List.setIfInBounds_toArray, List.set_cons_zero, List.set_cons_succ, i64_w, i32_w]
    rfl
  refine take_ (i := 12) (N := some 29) (v := ?_) (a' := ?_) #[true, true, true, true, true, true, true, true, true, true, true, true, true, false, true, false, true, false, false, true, false, true, false, false, false, true, false, false, false, false, false, false] rfl rfl (by kernel_rfl) (fun _ _ _ h => h) (Or.inl ⟨by rfl, ?_⟩) hHeld ?_ ?_
  rotate_left
  · rintro w' ⟨s0, s1, s2, s3, s4, s5, s6, s7, s8, s9⟩
    go_simp
    with_reducible rfl
  rotate_left
  · simp only [Act.put, List.setIfInBounds_toArray, List.set_cons_zero, List.set_cons_succ, i64_w, i32_w]
    rfl
  refine pure_ (i := 13) (N := some 30) (v := ?_) (a' := ?_) #[true, true, true, true, true, true, true, true, true, true, true, true, true, true, true, false, true, false, false, true, false, true, false, false, false, true, false, false, false, false, false, false] rfl rfl (by kernel_rfl) (fun _ _ _ h => h) (Or.inl ⟨by rfl, ?_⟩) ?_ ?_
  rotate_left
  · intro w'
    go_simp
    with_reducible rfl
  rotate_left
  · simp only [Act.put, List.setIfInBounds_toArray, List.set_cons_zero, List.set_cons_succ, i64_w, i32_w]
    rfl
  refine take_ (i := 15) (N := some 32) (v := ?_) (a' := ?_) #[true, true, true, true, true, true, true, true, true, true, true, true, true, true, true, true, true, false, false, true, false, true, false, false, false, true, false, false, false, false, false, false] rfl rfl (by kernel_rfl) (fun _ _ _ h => h) (Or.inl ⟨by rfl, ?_⟩) hHeld ?_ ?_
  rotate_left
  · rintro w' ⟨s0, s1, s2, s3, s4, s5, s6, s7, s8, s9⟩
    go_simp
    with_reducible rfl
  rotate_left
  · simp only [Act.put, List.setIfInBounds_toArray, List.set_cons_zero, List.set_cons_succ, i64_w, i32_w]
    rfl
  refine take_ (i := 17) (N := some 34) (v := ?_) (a' := ?_) #[true, true, true, true, true, true, true, true, true, true, true, true, true, true, true, true, true, true, false, true, false, true, false, false, false, true, false, false, false, false, false, false] rfl rfl (by kernel_rfl) (fun _ _ _ h => h) (Or.inl ⟨by rfl, ?_⟩) hHeld ?_ ?_
  rotate_left
  · rintro w' ⟨s0, s1, s2, s3, s4, s5, s6, s7, s8, s9⟩
    go_simp
    with_reducible rfl
  rotate_left
  · simp only [Act.put, List.setIfInBounds_toArray, List.set_cons_zero, List.set_cons_succ, i64_w, i32_w]
    rfl
  refine pure_ (i := 18) (N := some 35) (v := ?_) (a' := ?_) #[true, true, true, true, true, true, true, true, true, true, true, true, true, true, true, true, true, true, true, true, false, true, false, false, false, true, false, false, false, false, false, false] rfl rfl (by kernel_rfl) (fun _ _ _ h => h) (Or.inl ⟨by rfl, ?_⟩) ?_ ?_
  rotate_left
  · intro w'
    go_simp
    with_reducible rfl
  rotate_left
  · simp only [Act.put, List.setIfInBounds_toArray, List.set_cons_zero, List.set_cons_succ, i64_w, i32_w]
    rfl
  refine take_ (i := 20) (N := some 37) (v := ?_) (a' := ?_) #[true, true, true, true, true, true, true, true, true, true, true, true, true, true, true, true, true, true, true, true, true, true, false, false, false, true, false, false, false, false, false, false] rfl rfl (by kernel_rfl) (fun _ _ _ h => h) (Or.inl ⟨by rfl, ?_⟩) hHeld ?_ ?_
  rotate_left
  · rintro w' ⟨s0, s1, s2, s3, s4, s5, s6, s7, s8, s9⟩
    go_simp
    with_reducible rfl
  rotate_left
  · simp only [Act.put, List.setIfInBounds_toArray, List.set_cons_zero, List.set_cons_succ, i64_w, i32_w]
    rfl
  refine take_ (i := 22) (N := some 39) (v := ?_) (a' := ?_) #[true, true, true, true, true, true, true, true, true, true, true, true, true, true, true, true, true, true, true, true, true, true, true, false, false, true, false, false, false, false, false, false] rfl rfl (by kernel_rfl) (fun _ _ _ h => h) (Or.inl ⟨by rfl, ?_⟩) hHeld ?_ ?_
  rotate_left
  · rintro w' ⟨s0, s1, s2, s3, s4, s5, s6, s7, s8, s9⟩
    go_simp
    with_reducible rfl
  rotate_left
  · simp only [Act.put, List.setIfInBounds_toArray, List.set_cons_zero, List.set_cons_succ, i64_w, i32_w]
    rfl
  refine pure_ (i := 23) (N := some 40) (v := ?_) (a' := ?_) #[true, true, true, true, true, true, true, true, true, true, true, true, true, true, true, true, true, true, true, true, true, true, true, true, false, true, false, false, false, false, false, false] rfl rfl (by kernel_rfl) (fun _ _ _ h => h) (Or.inl ⟨by rfl, ?_⟩) ?_ ?_
  rotate_left
  · intro w'
    go_simp
    with_reducible rfl
  rotate_left
  · simp only [Act.put, List.setIfInBounds_toArray, List.set_cons_zero, List.set_cons_succ, i64_w, i32_w]
    rfl
  refine pure_ (i := 24) (N := some 41) (v := ?_) (a' := ?_) #[true, true, true, true, true, true, true, true, true, true, true, true, true, true, true, true, true, true, true, true, true, true, true, true, true, true, false, false, false, false, false, false] rfl rfl (by kernel_rfl) (fun _ _ _ h => h) (Or.inl ⟨by rfl, ?_⟩) ?_ ?_
  rotate_left
  · intro w'
    go_simp
    with_reducible rfl
  rotate_left
  · simp only [Act.put, List.setIfInBounds_toArray, List.set_cons_zero, List.set_cons_succ, i64_w, i32_w]
    rfl
  refine take_ (i := 26) (N := some 43) (v := ?_) (a' := ?_) #[true, true, true, true, true, true, true, true, true, true, true, true, true, true, true, true, true, true, true, true, true, true, true, true, true, true, true, false, false, false, false, false] rfl rfl (by kernel_rfl) (fun _ _ _ h => h) (Or.inl ⟨by rfl, ?_⟩) hHeld ?_ ?_
  rotate_left
  · rintro w' ⟨s0, s1, s2, s3, s4, s5, s6, s7, s8, s9⟩
    go_simp
    with_reducible rfl
  rotate_left
  · simp only [Act.put, List.setIfInBounds_toArray, List.set_cons_zero, List.set_cons_succ, i64_w, i32_w]
    rfl
  refine pure_ (i := 27) (N := some 44) (v := ?_) (a' := ?_) #[true, true, true, true, true, true, true, true, true, true, true, true, true, true, true, true, true, true, true, true, true, true, true, true, true, true, true, true, false, false, false, false] rfl rfl (by kernel_rfl) (fun _ _ _ h => h) (Or.inl ⟨by rfl, ?_⟩) ?_ ?_
  rotate_left
  · intro w'
    go_simp
    with_reducible rfl
  rotate_left
  · simp only [Act.put, List.setIfInBounds_toArray, List.set_cons_zero, List.set_cons_succ, i64_w, i32_w]
    rfl
  refine pure_ (i := 28) (N := some 45) (v := ?_) (a' := ?_) #[true, true, true, true, true, true, true, true, true, true, true, true, true, true, true, true, true, true, true, true, true, true, true, true, true, true, true, true, true, false, false, false] rfl rfl (by kernel_rfl) (fun _ _ _ h => h) (Or.inl ⟨by rfl, ?_⟩) ?_ ?_
  rotate_left
  · intro w'
    go_simp
    with_reducible rfl
  rotate_left
  · simp only [Act.put, List.setIfInBounds_toArray, List.set_cons_zero, List.set_cons_succ, i64_w, i32_w]
    rfl
  refine one_ (i := 29) (N := none) #[true, true, true, true, true, true, true, true, true, true, true, true, true, true, true, true, true, true, true, true, true, true, true, true, true, true, true, true, true, true, false, false] rfl rfl (by kernel_rfl) (by decide) (fun K hK => ?_)
  refine skip_ (w1 := ?_) (by rfl) rfl ?_ ?_
  rotate_left
  · go_simp
    rfl
  refine hK.out _ _ ⟨(blk_cell (blk_far (show w5.drew.heap[g2]? = _ from Kg2_5.out) Ng2g5 _) 0).trans rfl, (blk_cell (blk_far (show w5.drew.heap[g2]? = _ from Kg2_5.out) Ng2g5 _) 1).trans rfl, (blk_cell (blk_far (show w5.drew.heap[g2]? = _ from Kg2_5.out) Ng2g5 _) 2).trans rfl, (blk_cell (blk_far (show w5.drew.heap[g2]? = _ from Kg2_5.out) Ng2g5 _) 3).trans rfl, (blk_cell (blk_far (show w5.drew.heap[g3]? = _ from Kg3_5.out) Ng3g5 _) 0).trans rfl, (blk_cell (blk_far (show w5.drew.heap[g3]? = _ from Kg3_5.out) Ng3g5 _) 1).trans rfl, (blk_cell (blk_far (show w5.drew.heap[g3]? = _ from Kg3_5.out) Ng3g5 _) 2).trans rfl, (blk_cell (blk_far (show w5.drew.heap[g3]? = _ from Kg3_5.out) Ng3g5 _) 3).trans rfl, (blk_cell (blk_put (show w5.drew.heap[g5]? = _ from Kg5_5.out) 2 (.int .i64 W) rfl) 0).trans rfl, (blk_cell (blk_put (show w5.drew.heap[g5]? = _ from Kg5_5.out) 2 (.int .i64 W) rfl) 1).trans rfl⟩ (fun hHeld => ?_)
  clear hK K
  refine pure_ (i := 30) (N := some 46) (v := ?_) (a' := ?_) #[true, true, true, true, true, true, true, true, true, true, true, true, true, true, true, true, true, true, true, true, true, true, true, true, true, true, true, true, true, true, true, false] rfl rfl (by kernel_rfl) (fun _ _ _ h => h) (Or.inl ⟨by rfl, ?_⟩) ?_ ?_
  rotate_left
  · intro w'
    go_simp
    with_reducible rfl
  rotate_left
  · simp only [Act.put, List.setIfInBounds_toArray, List.set_cons_zero, List.set_cons_succ, i64_w, i32_w]
    rfl
  refine one_ (i := 31) (N := none) #[true, true, true, true, true, true, true, true, true, true, true, true, true, true, true, true, true, true, true, true, true, true, true, true, true, true, true, true, true, true, true, true] rfl rfl (by kernel_rfl) (by decide) (fun K hK => ?_)
  refine skip_ (w1 := ?_) (by rfl) rfl ?_ ?_
  rotate_left
  · go_simp
    rfl
  refine hK.out _ _ ⟨(blk_cell (blk_far (blk_far (show w5.drew.heap[g2]? = _ from Kg2_5.out) Ng2g5 _) Ng2g5 _) 0).trans rfl, (blk_cell (blk_far (blk_far (show w5.drew.heap[g2]? = _ from Kg2_5.out) Ng2g5 _) Ng2g5 _) 1).trans rfl, (blk_cell (blk_far (blk_far (show w5.drew.heap[g2]? = _ from Kg2_5.out) Ng2g5 _) Ng2g5 _) 2).trans rfl, (blk_cell (blk_far (blk_far (show w5.drew.heap[g2]? = _ from Kg2_5.out) Ng2g5 _) Ng2g5 _) 3).trans rfl, (blk_cell (blk_far (blk_far (show w5.drew.heap[g3]? = _ from Kg3_5.out) Ng3g5 _) Ng3g5 _) 0).trans rfl, (blk_cell (blk_far (blk_far (show w5.drew.heap[g3]? = _ from Kg3_5.out) Ng3g5 _) Ng3g5 _) 1).trans rfl, (blk_cell (blk_far (blk_far (show w5.drew.heap[g3]? = _ from Kg3_5.out) Ng3g5 _) Ng3g5 _) 2).trans rfl, (blk_cell (blk_far (blk_far (show w5.drew.heap[g3]? = _ from Kg3_5.out) Ng3g5 _) Ng3g5 _) 3).trans rfl, (blk_cell (blk_put (blk_put (show w5.drew.heap[g5]? = _ from Kg5_5.out) 2 (.int .i64 W) rfl) 3 (.int .i64 H) rfl) 0).trans rfl, (blk_cell (blk_put (blk_put (show w5.drew.heap[g5]? = _ from Kg5_5.out) 2 (.int .i64 W) rfl) 3 (.int .i64 H) rfl) 1).trans rfl⟩ (fun hHeld => ?_)
  clear hK K
  refine done_ (by kernel_rfl) ?_
  have Kg4_6 : Aside0 (((w5.setCell ⟨g5, 2, none⟩ (.int .i64 W)).setCell ⟨g5, 3, none⟩ (.int .i64 H)).drew.heap[g4]? = _) := ⟨blk_far (blk_far Kg4_5.out Ng4g5 _) Ng4g5 _⟩
  have Kg5_6 : Aside0 (((w5.setCell ⟨g5, 2, none⟩ (.int .i64 W)).setCell ⟨g5, 3, none⟩ (.int .i64 H)).drew.heap[g5]? = some (.cells #[.int .i64 x, .int .i64 y, .int .i64 W, .int .i64 H] 70 (0, 0))) := ⟨blk_put (blk_put Kg5_5.out 2 (.int .i64 W) rfl) 3 (.int .i64 H) rfl⟩
  have HB6 : Aside0 (Below w.heap.size w ((w5.setCell ⟨g5, 2, none⟩ (.int .i64 W)).setCell ⟨g5, 3, none⟩ (.int .i64 H)).drew) := ⟨below_drew1 ((HB5.out.setCell Bg5.out _).setCell Bg5.out _)⟩
  clear z2 z3 y2 y3
  generalize ((w5.setCell ⟨g5, 2, none⟩ (.int .i64 W)).setCell ⟨g5, 3, none⟩ (.int .i64 H)).drew = w6 at Kg4_6 Kg5_6 HB6 ⊢
  have v0 : w6.cell? ⟨g5, 0, none⟩ = some (.int .i64 x) := (blk_cell Kg5_6.out 0).trans rfl
  have v1 : w6.cell? ⟨g5, 1, none⟩ = some (.int .i64 y) := (blk_cell Kg5_6.out 1).trans rfl
  have v2 : w6.cell? ⟨g5, 2, none⟩ = some (.int .i64 W) := (blk_cell Kg5_6.out 2).trans rfl
  have v3 : w6.cell? ⟨g5, 3, none⟩ = some (.int .i64 H) := (blk_cell Kg5_6.out 3).trans rfl
  have z0 : w6.cell? ⟨g4, 0, none⟩ = some (.int .i64 0) := (blk_cell Kg4_6.out 0).trans rfl
  have y0 := blk_frozen Kg4_6.out 0
  have z1 : w6.cell? ⟨g4, 1, none⟩ = some (.int .i64 0) := (blk_cell Kg4_6.out 1).trans rfl
  have y1 := blk_frozen Kg4_6.out 1
  have z2 : w6.cell? ⟨g4, 2, none⟩ = some (.int .i64 0) := (blk_cell Kg4_6.out 2).trans rfl
  have y2 := blk_frozen Kg4_6.out 2
  have z3 : w6.cell? ⟨g4, 3, none⟩ = some (.int .i64 0) := (blk_cell Kg4_6.out 3).trans rfl
  have y3 := blk_frozen Kg4_6.out 3
  by_cases c1 : W < 1
  · have b1 : decide (W < 1) = true := decide_eq_true c1
    obtain ⟨rfl, rfl, rfl, rfl⟩ : 0 = r1 ∧ 0 = r2 ∧ 0 = r3 ∧ 0 = r4 := by have h := HH.out; rw [if_pos c1] at h; simpa using h
    clear HH
    go_wp2
    refine bodyPost_ret (results_cell_row rfl _ _ g4 70 #[.int .i64 0, .int .i64 0, .int .i64 0, .int .i64 0] (0, 0) _ rfl ?_ Try.underlying70 rfl (by kernel_rfl)) rfl ⟨rfl, ?_⟩
    · exact blk_put (blk_put (blk_put (blk_put Kg4_6.out 0 (.int .i64 0) rfl) 1 (.int .i64 0) rfl) 2 (.int .i64 0) rfl) 3 (.int .i64 0) rfl
    · exact (((HB6.out.setCell Bg4.out _).setCell Bg4.out _).setCell Bg4.out _).setCell Bg4.out _
  · have b1 : decide (W < 1) = false := decide_eq_false c1
    by_cases c2 : H < 1
    · have b2 : decide (H < 1) = true := decide_eq_true c2
      obtain ⟨rfl, rfl, rfl, rfl⟩ : 0 = r1 ∧ 0 = r2 ∧ 0 = r3 ∧ 0 = r4 := by have h := HH.out; rw [if_neg c1, if_pos c2] at h; simpa using h
      clear HH
      go_wp2
      refine bodyPost_ret (results_cell_row rfl _ _ g4 70 #[.int .i64 0, .int .i64 0, .int .i64 0, .int .i64 0] (0, 0) _ rfl ?_ Try.underlying70 rfl (by kernel_rfl)) rfl ⟨rfl, ?_⟩
      · exact blk_put (blk_put (blk_put (blk_put Kg4_6.out 0 (.int .i64 0) rfl) 1 (.int .i64 0) rfl) 2 (.int .i64 0) rfl) 3 (.int .i64 0) rfl
      · exact (((HB6.out.setCell Bg4.out _).setCell Bg4.out _).setCell Bg4.out _).setCell Bg4.out _
    · have b2 : decide (H < 1) = false := decide_eq_false c2
      obtain ⟨rfl, rfl, rfl, rfl⟩ : x = r1 ∧ y = r2 ∧ W = r3 ∧ H = r4 := by have h := HH.out; rw [if_neg c1, if_neg c2] at h; simpa using h
      clear HH
      go_wp2
      refine bodyPost_ret (results_cell_row rfl _ _ g4 70 #[.int .i64 x, .int .i64 y, .int .i64 W, .int .i64 H] (0, 0) _ rfl ?_ Try.underlying70 rfl (by kernel_rfl)) rfl ⟨rfl, ?_⟩
      · exact blk_put (blk_put (blk_put (blk_put Kg4_6.out 0 (.int .i64 x) rfl) 1 (.int .i64 y) rfl) 2 (.int .i64 W) rfl) 3 (.int .i64 H) rfl
      · exact (((HB6.out.setCell Bg4.out _).setCell Bg4.out _).setCell Bg4.out _).setCell Bg4.out _
end Go.Proofs.Ytaejmgdpnnhpmaa.QRasterFlat
