/- Sizes, ascents, and paint.Frag's closure at its five properties, walked by hand. -/
import Derived.Test.YtaejmgdpnnhpmaaStyRim
import Derived.Test.YtaejmgdpnnhpmaaFrEq
namespace Go.Proofs.Ytaejmgdpnnhpmaa.QSty
open Go.RowKit Go.Proofs.YtaejmgdpnnhpmaaW.PrintWords Go.Proofs.YtaejmgdpnnhpmaaW.PrintLast Go.Proofs.YtaejmgdpnnhpmaaW.PrintMore
attribute [local go_sem] max2_int min2_int max_two min_two
set_option linter.unusedVariables false
set_option linter.unusedSimpArgs false
theorem store_run {P : Program} {oi : Oper} {a : Act} {w : World} (ty : TypeId) (x y : Operand) (g : Nat) (cells : Array Value) (ho : oi.op = .store ty x y) (hx : a.eval x = .pointer (some ⟨g, 0, none⟩)) (hy : a.eval y = .agg cells)
    (ht : w.there g 0 cells.size) (hi : (P.info? ty).map (·.size) = some cells.size) (h1 : cells.all (·.oneCell') = true) : (execOp a.eval oi).run P w = .ok .skip (w.setCells g 0 cells.toList) := by
  unfold execOp
  simp only [ho, hx, hy, Instr.storeAt, Instr.sureAddr, Sem.run_bind, Sem.run_pure, Result.andThen_ok, run_storeVar_mid w g 0 ty cells ht hi h1]
/-- A size. -/
def size0 (n : Int) : Int := mx 0 (cut n)
def fsize (xs : List Int) : Int := size0 (xs.getD 75 0)
def ascent (n : Int) : Int := part (size0 n) 3 4
theorem ascent_a (n : Int) : font_Ascent.f n = some (ascent n) := by
  unfold font_Ascent.f font_cut.f ascent size0
  simp only [cut_a, part_a, Option.bind_some]
theorem font_Ascent_calls (n : Int) (w : World) : Calls Try.prog 58 #[.int .i64 n] w fun e w' => e = .returned (.int .i64 (ascent n)) ∧ Below w.heap.size w w' := font_Ascent.calls n _ w (ascent_a n)
set_option maxHeartbeats 8000000 in
set_option maxRecDepth 100000 in
theorem items_Size.calls (xs : List Int) (hl : xs.length = 118) (w : World) :
    Calls Try.prog 57 #[sty xs] w fun e w' => e = .returned (.int .i64 (fsize xs)) ∧ Below w.heap.size w w' := by
  have C0 := fun w => fix_Cut.calls (xs.getD 75 0) _ w (cut_a _)
  unfold fsize size0 sty
  have hm : ∀ z : Int, (if 0 < z then z else 0) = mx 0 z := fun z => rfl
  obtain ⟨a, ha⟩ : ∃ a, (nums .i64 xs).toArray = a := ⟨_, rfl⟩
  have A75 : Aside0 (a[75]? = some (.int .i64 (xs.getD 75 0))) := ⟨by rw [← ha]; simp [nums, hl]⟩
  rw [ha]
  obtain ⟨q, hq⟩ : ∃ q, xs.getD 75 0 = q := ⟨_, rfl⟩
  rw [hq] at C0 A75 ⊢
  obtain ⟨c, hc⟩ : ∃ c, cut q = c := ⟨_, rfl⟩
  rw [hc] at C0 ⊢
  obtain ⟨m, hm_⟩ : ∃ m, mx 0 c = m := ⟨_, rfl⟩
  rw [hm_]
  have hm2 : (if 0 < c then c else 0) = m := hm_
  have K0 := Aside0.mk C0
  clear C0 ha hl hq hc hm
  have HB := Aside0.mk (Below.refl w.heap.size w)
  go_enter Try.func57, Try.ntmps57
  go_wp2_with (first
    | ((with_reducible refine gate_dst (N := 1) rfl ?_); refine box_event rfl (N := 1) rfl (cs := a) (t := 25) (by first | (go_simp; done) | (go_simp; rfl)) ?_; intro gs hg_ w1 hbx hb; have v75 : w1.cell? ⟨gs, 75, none⟩ = some (.int .i64 q) := (blk_cell hbx 75).trans A75.out; have HB1 := Aside0.mk (below_step HB.out hb); clear hg_ hbx hb)
    | (go_at_call 51; (with_reducible refine (K0.out _).mono ?_); rintro e w2 ⟨rfl, hb⟩; have HB2 := Aside0.mk (below_step HB1.out hb); clear hb))
  go_ret
  exact ⟨rfl, HB2.out⟩
set_option maxHeartbeats 8000000 in
set_option maxRecDepth 100000 in
theorem ref_size.calls (n : Int) (w : World) : Calls Try.prog 72 #[.int .i64 n] w fun e w' => e = .returned (.int .i64 (size0 n)) ∧ Below w.heap.size w w' := by
  have C0 := fun w => (clerestoryref3_Cut.calls n _ w (cut_b n)).mono (fun _ _ h => (⟨h.1, h.2.below⟩ : _ ∧ Below w.heap.size w _))
  unfold size0
  obtain ⟨c, hc⟩ : ∃ c, cut n = c := ⟨_, rfl⟩
  rw [hc] at C0 ⊢
  obtain ⟨m, hm_⟩ : ∃ m, mx 0 c = m := ⟨_, rfl⟩
  rw [hm_]
  have hm2 : (if 0 < c then c else 0) = m := hm_
  have K0 := Aside0.mk C0
  clear C0 hc
  go_enter Try.func72, Try.ntmps72
  go_wp2_with (go_at_call 21; (with_reducible refine (K0.out _).mono ?_); rintro e w2 ⟨rfl, hb⟩; have HB2 := Aside0.mk hb; clear hb)
  go_ret
  exact ⟨rfl, HB2.out⟩
set_option maxHeartbeats 8000000 in
set_option maxRecDepth 100000 in
theorem ref_Size.calls (xs : List Int) (hl : xs.length = 118) (w : World) :
    Calls Try.prog 62 #[sty xs] w fun e w' => e = .returned (.int .i64 (fsize xs)) ∧ Below w.heap.size w w' := by
  have C0 := fun w => ref_size.calls (xs.getD 75 0) w
  unfold fsize sty
  obtain ⟨a, ha⟩ : ∃ a, (nums .i64 xs).toArray = a := ⟨_, rfl⟩
  have A75 : Aside0 (a[75]? = some (.int .i64 (xs.getD 75 0))) := ⟨by rw [← ha]; simp [nums, hl]⟩
  rw [ha]
  obtain ⟨q, hq⟩ : ∃ q, xs.getD 75 0 = q := ⟨_, rfl⟩
  rw [hq] at C0 A75 ⊢
  have K0 := Aside0.mk C0
  clear C0 ha hl hq
  have HB := Aside0.mk (Below.refl w.heap.size w)
  go_enter Try.func62, Try.ntmps62
  go_wp2_with (first
    | ((with_reducible refine gate_dst (N := 1) rfl ?_); refine box_event rfl (N := 1) rfl (cs := a) (t := 25) (by first | (go_simp; done) | (go_simp; rfl)) ?_; intro gs hg_ w1 hbx hb; have v75 : w1.cell? ⟨gs, 75, none⟩ = some (.int .i64 q) := (blk_cell hbx 75).trans A75.out; have HB1 := Aside0.mk (below_step HB.out hb); clear hg_ hbx hb)
    | (go_at_call 72; (with_reducible refine (K0.out _).mono ?_); rintro e w2 ⟨rfl, hb⟩; have HB2 := Aside0.mk (below_step HB1.out hb); clear hb))
  go_ret
  exact ⟨rfl, HB2.out⟩
set_option maxHeartbeats 8000000 in
set_option maxRecDepth 100000 in
theorem ref_Ascent.calls (n : Int) (w : World) : Calls Try.prog 61 #[.int .i64 n] w fun e w' => e = .returned (.int .i64 (ascent n)) ∧ Below w.heap.size w w' := by
  have C0 := fun w => ref_size.calls n w
  have C1 := fun w => (clerestoryref3_Part.calls (size0 n) 3 4 _ w (part_b _ 3 4)).mono (fun _ _ h => (⟨h.1, h.2.below⟩ : _ ∧ Below w.heap.size w _))
  unfold ascent
  go_enter Try.func61, Try.ntmps61
  go_wp2_with (first
    | (go_at_call 72; (with_reducible refine (C0 _).mono ?_); rintro e w2 ⟨rfl, hb⟩; have HB2 := Aside0.mk hb; clear hb)
    | (go_at_call 48; (with_reducible refine (C1 _).mono ?_); rintro e w3 ⟨rfl, hb⟩; have HB3 := Aside0.mk (below_step HB2.out hb); clear hb))
  go_ret
  exact ⟨rfl, HB3.out⟩
/-- A frag: seven numbers and a text. -/
structure Fr where
  f0 : Int
  f1 : Int
  f2 : Int
  x : Int
  y : Int
  w : Int
  h : Int
  text : ByteArray
def frc (f : Fr) : Array Value := #[.int .i64 f.f0, .int .i64 f.f1, .int .i64 f.f2, .int .i64 f.x, .int .i64 f.y, .int .i64 f.w, .int .i64 f.h, .string f.text]
/-- What a closure fills. -/
def cmdv (node x y w h color : Int) : Value := .agg #[.int .i64 1, .int .i64 node, .int .i64 x, .int .i64 y, .int .i64 w, .int .i64 h, .int .i64 color, .int .i64 0, .string ⟨#[]⟩]
set_option maxHeartbeats 8000000 in
set_option maxRecDepth 100000 in
theorem paint_Frag_1_36.calls (f : Fr) (xs : List Int) (hl : xs.length = 118) (x y ww hh : Int) (gf gs : Nat) (w : World) (hf : w.heap[gf]? = some (.cells (frc f) 41 (0, 0))) (hs : w.heap[gs]? = some (.cells (nums .i64 xs).toArray 25 (0, 0))) :
    Calls Try.prog 59 #[.int .i64 x, .int .i64 y, .int .i64 ww, .int .i64 hh, .int .i64 36, .pointer (some ⟨gf, 0, none⟩), .pointer (some ⟨gs, 0, none⟩)] w fun e w' => e = .returned (cmdv f.f1 x y ww hh (xs.getD 73 0)) ∧ Below w.heap.size w w' := by
  unfold cmdv
  have v1 : w.cell? ⟨gf, 1, none⟩ = some (.int .i64 f.f1) := (blk_cell hf 1).trans rfl
  have vc : w.cell? ⟨gs, 73, none⟩ = some (.int .i64 (xs.getD 73 0)) := (blk_cell hs 73).trans (by simp [nums, hl])
  have HF := Aside0.mk v1
  have HS := Aside0.mk vc
  clear hf hs v1 vc
  generalize f.f1 = node at HF ⊢
  generalize xs.getD 73 0 = col at HS ⊢
  have HB := Aside0.mk (Below.refl w.heap.size w)
  go_enter Try.func59, Try.ntmps59
  go_wp2_with ((with_reducible refine gate_dst (N := 12) rfl ?_); refine box_event rfl (N := 12) rfl (cs := #[.int .i64 0, .int .i64 0, .int .i64 0, .int .i64 0, .int .i64 0, .int .i64 0, .int .i64 0, .int .i64 0, .string ⟨#[]⟩]) (t := 45) (by first | (go_simp; done) | (go_simp; rfl)) ?_; intro gr hgr w3 hbx hb; have HR := Aside0.mk hbx; have HG := Aside0.mk (show w.heap.size ≤ gr by omega); have v1 := (hb.cell (World.block_lt_of_cell? w _ HF.out)).trans HF.out; have vc := (hb.cell (World.block_lt_of_cell? w _ HS.out)).trans HS.out; have HB3 := Aside0.mk (below_step HB.out hb); clear hgr hbx hb)
  refine start_ (n := 12) (S := fun w' => w'.cell? ⟨gf, 1, none⟩ = some (.int .i64 node) ∧ w'.cell? ⟨gs, 73, none⟩ = some (.int .i64 col)) (ds := [11]) #[false, false, false, false, false, false, false, false, false, false, false, false] (by kernel_rfl) rfl rfl ⟨v1, vc⟩ (fun hHeld => ?_)
  refine pure_ (i := 0) (N := some 13) (v := ?_) (a' := ?_) #[true, false, false, false, false, false, false, false, false, false, false, false] rfl rfl (by kernel_rfl) (fun _ _ _ h => h) (Or.inl ⟨by rfl, ?_⟩) ?_ ?_
  rotate_left
  · intro w'
    go_simp
    with_reducible rfl
  rotate_left
  · simp only [Act.put, List.setIfInBounds_toArray, List.set_cons_zero, List.set_cons_succ, i64_w, i32_w]
    rfl
  refine pure_ (i := 2) (N := some 15) (v := ?_) (a' := ?_) #[true, false, true, false, false, false, false, false, false, false, false, false] rfl rfl (by kernel_rfl) (fun _ _ _ h => h) (Or.inl ⟨by rfl, ?_⟩) ?_ ?_
  rotate_left
  · intro w'
    go_simp
    with_reducible rfl
  rotate_left
  · simp only [Act.put, List.setIfInBounds_toArray, List.set_cons_zero, List.set_cons_succ, i64_w, i32_w]
    rfl
  refine pure_ (i := 3) (N := some 16) (v := ?_) (a' := ?_) #[true, false, true, true, false, false, false, false, false, false, false, false] rfl rfl (by kernel_rfl) (fun _ _ _ h => h) (Or.inl ⟨by rfl, ?_⟩) ?_ ?_
  rotate_left
  · intro w'
    go_simp
    with_reducible rfl
  rotate_left
  · simp only [Act.put, List.setIfInBounds_toArray, List.set_cons_zero, List.set_cons_succ, i64_w, i32_w]
    rfl
  refine pure_ (i := 4) (N := some 17) (v := ?_) (a' := ?_) #[true, false, true, true, true, false, false, false, false, false, false, false] rfl rfl (by kernel_rfl) (fun _ _ _ h => h) (Or.inl ⟨by rfl, ?_⟩) ?_ ?_
  rotate_left
  · intro w'
    go_simp
    with_reducible rfl
  rotate_left
  · simp only [Act.put, List.setIfInBounds_toArray, List.set_cons_zero, List.set_cons_succ, i64_w, i32_w]
    rfl
  refine pure_ (i := 5) (N := some 18) (v := ?_) (a' := ?_) #[true, false, true, true, true, true, false, false, false, false, false, false] rfl rfl (by kernel_rfl) (fun _ _ _ h => h) (Or.inl ⟨by rfl, ?_⟩) ?_ ?_
  rotate_left
  · intro w'
    go_simp
    with_reducible rfl
  rotate_left
  · simp only [Act.put, List.setIfInBounds_toArray, List.set_cons_zero, List.set_cons_succ, i64_w, i32_w]
    rfl
  refine pure_ (i := 6) (N := some 19) (v := ?_) (a' := ?_) #[true, false, true, true, true, true, true, false, false, false, false, false] rfl rfl (by kernel_rfl) (fun _ _ _ h => h) (Or.inl ⟨by rfl, ?_⟩) ?_ ?_
  rotate_left
  · intro w'
    go_simp
    with_reducible rfl
  rotate_left
  · simp only [Act.put, List.setIfInBounds_toArray, List.set_cons_zero, List.set_cons_succ, i64_w, i32_w]
    rfl
  refine pure_ (i := 7) (N := some 20) (v := ?_) (a' := ?_) #[true, false, true, true, true, true, true, true, false, false, false, false] rfl rfl (by kernel_rfl) (fun _ _ _ h => h) (Or.inl ⟨by rfl, ?_⟩) ?_ ?_
  rotate_left
  · intro w'
    go_simp
    with_reducible rfl
  rotate_left
  · simp only [Act.put, List.setIfInBounds_toArray, List.set_cons_zero, List.set_cons_succ, i64_w, i32_w]
    rfl
  refine pure_ (i := 8) (N := some 21) (v := ?_) (a' := ?_) #[true, false, true, true, true, true, true, true, true, false, false, false] rfl rfl (by kernel_rfl) (fun _ _ _ h => h) (Or.inl ⟨by rfl, ?_⟩) ?_ ?_
  rotate_left
  · intro w'
    go_simp
    with_reducible rfl
  rotate_left
  · simp only [Act.put, List.setIfInBounds_toArray, List.set_cons_zero, List.set_cons_succ, i64_w, i32_w]
    rfl
  refine take_ (i := 1) (N := some 14) (v := ?_) (a' := ?_) #[true, true, true, true, true, true, true, true, true, false, false, false] rfl rfl (by kernel_rfl) (fun _ _ _ h => h) (Or.inl ⟨by rfl, ?_⟩) hHeld ?_ ?_
  rotate_left
  · rintro w' ⟨s0, s1⟩
    go_simp
    with_reducible rfl
  rotate_left
  · simp only [Act.put, List.setIfInBounds_toArray, List.set_cons_zero, List.set_cons_succ, i64_w, i32_w]
    rfl
  refine take_ (i := 9) (N := some 22) (v := ?_) (a' := ?_) #[true, true, true, true, true, true, true, true, true, true, false, false] rfl rfl (by kernel_rfl) (fun _ _ _ h => h) (Or.inl ⟨by rfl, ?_⟩) hHeld ?_ ?_
  rotate_left
  · rintro w' ⟨s0, s1⟩
    go_simp
    with_reducible rfl
  rotate_left
  · simp only [Act.put, List.setIfInBounds_toArray, List.set_cons_zero, List.set_cons_succ, i64_w, i32_w]
    rfl
  refine pure_ (i := 10) (N := some 23) (v := ?_) (a' := ?_) #[true, true, true, true, true, true, true, true, true, true, true, false] rfl rfl (by kernel_rfl) (fun _ _ _ h => h) (Or.inl ⟨by rfl, ?_⟩) ?_ ?_
  rotate_left
  · intro w'
    go_simp
    with_reducible rfl
  rotate_left
  · simp only [Act.put, List.setIfInBounds_toArray, List.set_cons_zero, List.set_cons_succ, i64_w, i32_w]
    rfl
  refine last_ (i := 11) (N := none) #[true, true, true, true, true, true, true, true, true, true, true, true] rfl rfl (by kernel_rfl) (by decide) (fun K hK => ?_)
  refine skip_ (w1 := w3.drew.setCells gr 0 (#[.int .i64 1, .int .i64 node, .int .i64 x, .int .i64 y, .int .i64 ww, .int .i64 hh, .int .i64 col, .int .i64 0, .string ⟨#[]⟩] : Array Value).toList) (by rfl) rfl ?_ ?_
  · exact store_run 45 (.tmp 12) (.tmp 23) gr #[.int .i64 1, .int .i64 node, .int .i64 x, .int .i64 y, .int .i64 ww, .int .i64 hh, .int .i64 col, .int .i64 0, .string ⟨#[]⟩] rfl rfl rfl (there_row (cs := #[.int .i64 0, .int .i64 0, .int .i64 0, .int .i64 0, .int .i64 0, .int .i64 0, .int .i64 0, .int .i64 0, .string ⟨#[]⟩]) (show w3.drew.heap[gr]? = _ from HR.out) _ (Nat.le_refl 9)) (by kernel_rfl) (all_oneCell_toArray (cs := [.int .i64 1, .int .i64 node, .int .i64 x, .int .i64 y, .int .i64 ww, .int .i64 hh, .int .i64 col, .int .i64 0, .string ⟨#[]⟩]) (by intro v hv; simp only [List.mem_cons, List.not_mem_nil, or_false] at hv; rcases hv with rfl | rfl | rfl | rfl | rfl | rfl | rfl | rfl | rfl <;> rfl))
  refine hK.out _ _ ?_
  clear hK K
  refine done_ (by kernel_rfl) ?_
  go_wp2
  refine bodyPost_ret (results_cell_row rfl _ _ gr 45 #[.int .i64 1, .int .i64 node, .int .i64 x, .int .i64 y, .int .i64 ww, .int .i64 hh, .int .i64 col, .int .i64 0, .string ⟨#[]⟩] (0, 0) _ rfl ?_ Try.underlying45 rfl (by kernel_rfl)) rfl ⟨rfl, ?_⟩
  · exact sets_row (vs := #[.int .i64 1, .int .i64 node, .int .i64 x, .int .i64 y, .int .i64 ww, .int .i64 hh, .int .i64 col, .int .i64 0, .string ⟨#[]⟩]) (show w3.drew.heap[gr]? = _ from HR.out) (by rfl)
  · exact sets_below HG.out _ 0 _ (below_drew1 HB3.out)
set_option maxHeartbeats 8000000 in
set_option maxRecDepth 100000 in
theorem paint_Frag_1_23.calls (f : Fr) (xs : List Int) (hl : xs.length = 118) (x y ww hh : Int) (gf gs : Nat) (w : World) (hf : w.heap[gf]? = some (.cells (frc f) 41 (0, 0))) (hs : w.heap[gs]? = some (.cells (nums .i64 xs).toArray 25 (0, 0))) :
    Calls Try.prog 59 #[.int .i64 x, .int .i64 y, .int .i64 ww, .int .i64 hh, .int .i64 23, .pointer (some ⟨gf, 0, none⟩), .pointer (some ⟨gs, 0, none⟩)] w fun e w' => e = .returned (cmdv f.f1 x y ww hh (xs.getD 47 0)) ∧ Below w.heap.size w w' := by
  unfold cmdv
  have v1 : w.cell? ⟨gf, 1, none⟩ = some (.int .i64 f.f1) := (blk_cell hf 1).trans rfl
  have vc : w.cell? ⟨gs, 47, none⟩ = some (.int .i64 (xs.getD 47 0)) := (blk_cell hs 47).trans (by simp [nums, hl])
  have HF := Aside0.mk v1
  have HS := Aside0.mk vc
  clear hf hs v1 vc
  generalize f.f1 = node at HF ⊢
  generalize xs.getD 47 0 = col at HS ⊢
  have HB := Aside0.mk (Below.refl w.heap.size w)
  go_enter Try.func59, Try.ntmps59
  go_wp2_with ((with_reducible refine gate_dst (N := 12) rfl ?_); refine box_event rfl (N := 12) rfl (cs := #[.int .i64 0, .int .i64 0, .int .i64 0, .int .i64 0, .int .i64 0, .int .i64 0, .int .i64 0, .int .i64 0, .string ⟨#[]⟩]) (t := 45) (by first | (go_simp; done) | (go_simp; rfl)) ?_; intro gr hgr w3 hbx hb; have HR := Aside0.mk hbx; have HG := Aside0.mk (show w.heap.size ≤ gr by omega); have v1 := (hb.cell (World.block_lt_of_cell? w _ HF.out)).trans HF.out; have vc := (hb.cell (World.block_lt_of_cell? w _ HS.out)).trans HS.out; have HB3 := Aside0.mk (below_step HB.out hb); clear hgr hbx hb)
  refine start_ (n := 12) (S := fun w' => w'.cell? ⟨gf, 1, none⟩ = some (.int .i64 node) ∧ w'.cell? ⟨gs, 47, none⟩ = some (.int .i64 col)) (ds := [11]) #[false, false, false, false, false, false, false, false, false, false, false, false] (by kernel_rfl) rfl rfl ⟨v1, vc⟩ (fun hHeld => ?_)
  refine pure_ (i := 0) (N := some 13) (v := ?_) (a' := ?_) #[true, false, false, false, false, false, false, false, false, false, false, false] rfl rfl (by kernel_rfl) (fun _ _ _ h => h) (Or.inl ⟨by rfl, ?_⟩) ?_ ?_
  rotate_left
  · intro w'
    go_simp
    with_reducible rfl
  rotate_left
  · simp only [Act.put, List.setIfInBounds_toArray, List.set_cons_zero, List.set_cons_succ, i64_w, i32_w]
    rfl
  refine pure_ (i := 2) (N := some 15) (v := ?_) (a' := ?_) #[true, false, true, false, false, false, false, false, false, false, false, false] rfl rfl (by kernel_rfl) (fun _ _ _ h => h) (Or.inl ⟨by rfl, ?_⟩) ?_ ?_
  rotate_left
  · intro w'
    go_simp
    with_reducible rfl
  rotate_left
  · simp only [Act.put, List.setIfInBounds_toArray, List.set_cons_zero, List.set_cons_succ, i64_w, i32_w]
    rfl
  refine pure_ (i := 3) (N := some 16) (v := ?_) (a' := ?_) #[true, false, true, true, false, false, false, false, false, false, false, false] rfl rfl (by kernel_rfl) (fun _ _ _ h => h) (Or.inl ⟨by rfl, ?_⟩) ?_ ?_
  rotate_left
  · intro w'
    go_simp
    with_reducible rfl
  rotate_left
  · simp only [Act.put, List.setIfInBounds_toArray, List.set_cons_zero, List.set_cons_succ, i64_w, i32_w]
    rfl
  refine pure_ (i := 4) (N := some 17) (v := ?_) (a' := ?_) #[true, false, true, true, true, false, false, false, false, false, false, false] rfl rfl (by kernel_rfl) (fun _ _ _ h => h) (Or.inl ⟨by rfl, ?_⟩) ?_ ?_
  rotate_left
  · intro w'
    go_simp
    with_reducible rfl
  rotate_left
  · simp only [Act.put, List.setIfInBounds_toArray, List.set_cons_zero, List.set_cons_succ, i64_w, i32_w]
    rfl
  refine pure_ (i := 5) (N := some 18) (v := ?_) (a' := ?_) #[true, false, true, true, true, true, false, false, false, false, false, false] rfl rfl (by kernel_rfl) (fun _ _ _ h => h) (Or.inl ⟨by rfl, ?_⟩) ?_ ?_
  rotate_left
  · intro w'
    go_simp
    with_reducible rfl
  rotate_left
  · simp only [Act.put, List.setIfInBounds_toArray, List.set_cons_zero, List.set_cons_succ, i64_w, i32_w]
    rfl
  refine pure_ (i := 6) (N := some 19) (v := ?_) (a' := ?_) #[true, false, true, true, true, true, true, false, false, false, false, false] rfl rfl (by kernel_rfl) (fun _ _ _ h => h) (Or.inl ⟨by rfl, ?_⟩) ?_ ?_
  rotate_left
  · intro w'
    go_simp
    with_reducible rfl
  rotate_left
  · simp only [Act.put, List.setIfInBounds_toArray, List.set_cons_zero, List.set_cons_succ, i64_w, i32_w]
    rfl
  refine pure_ (i := 7) (N := some 20) (v := ?_) (a' := ?_) #[true, false, true, true, true, true, true, true, false, false, false, false] rfl rfl (by kernel_rfl) (fun _ _ _ h => h) (Or.inl ⟨by rfl, ?_⟩) ?_ ?_
  rotate_left
  · intro w'
    go_simp
    with_reducible rfl
  rotate_left
  · simp only [Act.put, List.setIfInBounds_toArray, List.set_cons_zero, List.set_cons_succ, i64_w, i32_w]
    rfl
  refine pure_ (i := 8) (N := some 21) (v := ?_) (a' := ?_) #[true, false, true, true, true, true, true, true, true, false, false, false] rfl rfl (by kernel_rfl) (fun _ _ _ h => h) (Or.inl ⟨by rfl, ?_⟩) ?_ ?_
  rotate_left
  · intro w'
    go_simp
    with_reducible rfl
  rotate_left
  · simp only [Act.put, List.setIfInBounds_toArray, List.set_cons_zero, List.set_cons_succ, i64_w, i32_w]
    rfl
  refine take_ (i := 1) (N := some 14) (v := ?_) (a' := ?_) #[true, true, true, true, true, true, true, true, true, false, false, false] rfl rfl (by kernel_rfl) (fun _ _ _ h => h) (Or.inl ⟨by rfl, ?_⟩) hHeld ?_ ?_
  rotate_left
  · rintro w' ⟨s0, s1⟩
    go_simp
    with_reducible rfl
  rotate_left
  · simp only [Act.put, List.setIfInBounds_toArray, List.set_cons_zero, List.set_cons_succ, i64_w, i32_w]
    rfl
  refine take_ (i := 9) (N := some 22) (v := ?_) (a' := ?_) #[true, true, true, true, true, true, true, true, true, true, false, false] rfl rfl (by kernel_rfl) (fun _ _ _ h => h) (Or.inl ⟨by rfl, ?_⟩) hHeld ?_ ?_
  rotate_left
  · rintro w' ⟨s0, s1⟩
    go_simp
    with_reducible rfl
  rotate_left
  · simp only [Act.put, List.setIfInBounds_toArray, List.set_cons_zero, List.set_cons_succ, i64_w, i32_w]
    rfl
  refine pure_ (i := 10) (N := some 23) (v := ?_) (a' := ?_) #[true, true, true, true, true, true, true, true, true, true, true, false] rfl rfl (by kernel_rfl) (fun _ _ _ h => h) (Or.inl ⟨by rfl, ?_⟩) ?_ ?_
  rotate_left
  · intro w'
    go_simp
    with_reducible rfl
  rotate_left
  · simp only [Act.put, List.setIfInBounds_toArray, List.set_cons_zero, List.set_cons_succ, i64_w, i32_w]
    rfl
  refine last_ (i := 11) (N := none) #[true, true, true, true, true, true, true, true, true, true, true, true] rfl rfl (by kernel_rfl) (by decide) (fun K hK => ?_)
  refine skip_ (w1 := w3.drew.setCells gr 0 (#[.int .i64 1, .int .i64 node, .int .i64 x, .int .i64 y, .int .i64 ww, .int .i64 hh, .int .i64 col, .int .i64 0, .string ⟨#[]⟩] : Array Value).toList) (by rfl) rfl ?_ ?_
  · exact store_run 45 (.tmp 12) (.tmp 23) gr #[.int .i64 1, .int .i64 node, .int .i64 x, .int .i64 y, .int .i64 ww, .int .i64 hh, .int .i64 col, .int .i64 0, .string ⟨#[]⟩] rfl rfl rfl (there_row (cs := #[.int .i64 0, .int .i64 0, .int .i64 0, .int .i64 0, .int .i64 0, .int .i64 0, .int .i64 0, .int .i64 0, .string ⟨#[]⟩]) (show w3.drew.heap[gr]? = _ from HR.out) _ (Nat.le_refl 9)) (by kernel_rfl) (all_oneCell_toArray (cs := [.int .i64 1, .int .i64 node, .int .i64 x, .int .i64 y, .int .i64 ww, .int .i64 hh, .int .i64 col, .int .i64 0, .string ⟨#[]⟩]) (by intro v hv; simp only [List.mem_cons, List.not_mem_nil, or_false] at hv; rcases hv with rfl | rfl | rfl | rfl | rfl | rfl | rfl | rfl | rfl <;> rfl))
  refine hK.out _ _ ?_
  clear hK K
  refine done_ (by kernel_rfl) ?_
  go_wp2
  refine bodyPost_ret (results_cell_row rfl _ _ gr 45 #[.int .i64 1, .int .i64 node, .int .i64 x, .int .i64 y, .int .i64 ww, .int .i64 hh, .int .i64 col, .int .i64 0, .string ⟨#[]⟩] (0, 0) _ rfl ?_ Try.underlying45 rfl (by kernel_rfl)) rfl ⟨rfl, ?_⟩
  · exact sets_row (vs := #[.int .i64 1, .int .i64 node, .int .i64 x, .int .i64 y, .int .i64 ww, .int .i64 hh, .int .i64 col, .int .i64 0, .string ⟨#[]⟩]) (show w3.drew.heap[gr]? = _ from HR.out) (by rfl)
  · exact sets_below HG.out _ 0 _ (below_drew1 HB3.out)
set_option maxHeartbeats 8000000 in
set_option maxRecDepth 100000 in
theorem paint_Frag_1_24.calls (f : Fr) (xs : List Int) (hl : xs.length = 118) (x y ww hh : Int) (gf gs : Nat) (w : World) (hf : w.heap[gf]? = some (.cells (frc f) 41 (0, 0))) (hs : w.heap[gs]? = some (.cells (nums .i64 xs).toArray 25 (0, 0))) :
    Calls Try.prog 59 #[.int .i64 x, .int .i64 y, .int .i64 ww, .int .i64 hh, .int .i64 24, .pointer (some ⟨gf, 0, none⟩), .pointer (some ⟨gs, 0, none⟩)] w fun e w' => e = .returned (cmdv f.f1 x y ww hh (xs.getD 49 0)) ∧ Below w.heap.size w w' := by
  unfold cmdv
  have v1 : w.cell? ⟨gf, 1, none⟩ = some (.int .i64 f.f1) := (blk_cell hf 1).trans rfl
  have vc : w.cell? ⟨gs, 49, none⟩ = some (.int .i64 (xs.getD 49 0)) := (blk_cell hs 49).trans (by simp [nums, hl])
  have HF := Aside0.mk v1
  have HS := Aside0.mk vc
  clear hf hs v1 vc
  generalize f.f1 = node at HF ⊢
  generalize xs.getD 49 0 = col at HS ⊢
  have HB := Aside0.mk (Below.refl w.heap.size w)
  go_enter Try.func59, Try.ntmps59
  go_wp2_with ((with_reducible refine gate_dst (N := 12) rfl ?_); refine box_event rfl (N := 12) rfl (cs := #[.int .i64 0, .int .i64 0, .int .i64 0, .int .i64 0, .int .i64 0, .int .i64 0, .int .i64 0, .int .i64 0, .string ⟨#[]⟩]) (t := 45) (by first | (go_simp; done) | (go_simp; rfl)) ?_; intro gr hgr w3 hbx hb; have HR := Aside0.mk hbx; have HG := Aside0.mk (show w.heap.size ≤ gr by omega); have v1 := (hb.cell (World.block_lt_of_cell? w _ HF.out)).trans HF.out; have vc := (hb.cell (World.block_lt_of_cell? w _ HS.out)).trans HS.out; have HB3 := Aside0.mk (below_step HB.out hb); clear hgr hbx hb)
  refine start_ (n := 12) (S := fun w' => w'.cell? ⟨gf, 1, none⟩ = some (.int .i64 node) ∧ w'.cell? ⟨gs, 49, none⟩ = some (.int .i64 col)) (ds := [11]) #[false, false, false, false, false, false, false, false, false, false, false, false] (by kernel_rfl) rfl rfl ⟨v1, vc⟩ (fun hHeld => ?_)
  refine pure_ (i := 0) (N := some 13) (v := ?_) (a' := ?_) #[true, false, false, false, false, false, false, false, false, false, false, false] rfl rfl (by kernel_rfl) (fun _ _ _ h => h) (Or.inl ⟨by rfl, ?_⟩) ?_ ?_
  rotate_left
  · intro w'
    go_simp
    with_reducible rfl
  rotate_left
  · simp only [Act.put, List.setIfInBounds_toArray, List.set_cons_zero, List.set_cons_succ, i64_w, i32_w]
    rfl
  refine pure_ (i := 2) (N := some 15) (v := ?_) (a' := ?_) #[true, false, true, false, false, false, false, false, false, false, false, false] rfl rfl (by kernel_rfl) (fun _ _ _ h => h) (Or.inl ⟨by rfl, ?_⟩) ?_ ?_
  rotate_left
  · intro w'
    go_simp
    with_reducible rfl
  rotate_left
  · simp only [Act.put, List.setIfInBounds_toArray, List.set_cons_zero, List.set_cons_succ, i64_w, i32_w]
    rfl
  refine pure_ (i := 3) (N := some 16) (v := ?_) (a' := ?_) #[true, false, true, true, false, false, false, false, false, false, false, false] rfl rfl (by kernel_rfl) (fun _ _ _ h => h) (Or.inl ⟨by rfl, ?_⟩) ?_ ?_
  rotate_left
  · intro w'
    go_simp
    with_reducible rfl
  rotate_left
  · simp only [Act.put, List.setIfInBounds_toArray, List.set_cons_zero, List.set_cons_succ, i64_w, i32_w]
    rfl
  refine pure_ (i := 4) (N := some 17) (v := ?_) (a' := ?_) #[true, false, true, true, true, false, false, false, false, false, false, false] rfl rfl (by kernel_rfl) (fun _ _ _ h => h) (Or.inl ⟨by rfl, ?_⟩) ?_ ?_
  rotate_left
  · intro w'
    go_simp
    with_reducible rfl
  rotate_left
  · simp only [Act.put, List.setIfInBounds_toArray, List.set_cons_zero, List.set_cons_succ, i64_w, i32_w]
    rfl
  refine pure_ (i := 5) (N := some 18) (v := ?_) (a' := ?_) #[true, false, true, true, true, true, false, false, false, false, false, false] rfl rfl (by kernel_rfl) (fun _ _ _ h => h) (Or.inl ⟨by rfl, ?_⟩) ?_ ?_
  rotate_left
  · intro w'
    go_simp
    with_reducible rfl
  rotate_left
  · simp only [Act.put, List.setIfInBounds_toArray, List.set_cons_zero, List.set_cons_succ, i64_w, i32_w]
    rfl
  refine pure_ (i := 6) (N := some 19) (v := ?_) (a' := ?_) #[true, false, true, true, true, true, true, false, false, false, false, false] rfl rfl (by kernel_rfl) (fun _ _ _ h => h) (Or.inl ⟨by rfl, ?_⟩) ?_ ?_
  rotate_left
  · intro w'
    go_simp
    with_reducible rfl
  rotate_left
  · simp only [Act.put, List.setIfInBounds_toArray, List.set_cons_zero, List.set_cons_succ, i64_w, i32_w]
    rfl
  refine pure_ (i := 7) (N := some 20) (v := ?_) (a' := ?_) #[true, false, true, true, true, true, true, true, false, false, false, false] rfl rfl (by kernel_rfl) (fun _ _ _ h => h) (Or.inl ⟨by rfl, ?_⟩) ?_ ?_
  rotate_left
  · intro w'
    go_simp
    with_reducible rfl
  rotate_left
  · simp only [Act.put, List.setIfInBounds_toArray, List.set_cons_zero, List.set_cons_succ, i64_w, i32_w]
    rfl
  refine pure_ (i := 8) (N := some 21) (v := ?_) (a' := ?_) #[true, false, true, true, true, true, true, true, true, false, false, false] rfl rfl (by kernel_rfl) (fun _ _ _ h => h) (Or.inl ⟨by rfl, ?_⟩) ?_ ?_
  rotate_left
  · intro w'
    go_simp
    with_reducible rfl
  rotate_left
  · simp only [Act.put, List.setIfInBounds_toArray, List.set_cons_zero, List.set_cons_succ, i64_w, i32_w]
    rfl
  refine take_ (i := 1) (N := some 14) (v := ?_) (a' := ?_) #[true, true, true, true, true, true, true, true, true, false, false, false] rfl rfl (by kernel_rfl) (fun _ _ _ h => h) (Or.inl ⟨by rfl, ?_⟩) hHeld ?_ ?_
  rotate_left
  · rintro w' ⟨s0, s1⟩
    go_simp
    with_reducible rfl
  rotate_left
  · simp only [Act.put, List.setIfInBounds_toArray, List.set_cons_zero, List.set_cons_succ, i64_w, i32_w]
    rfl
  refine take_ (i := 9) (N := some 22) (v := ?_) (a' := ?_) #[true, true, true, true, true, true, true, true, true, true, false, false] rfl rfl (by kernel_rfl) (fun _ _ _ h => h) (Or.inl ⟨by rfl, ?_⟩) hHeld ?_ ?_
  rotate_left
  · rintro w' ⟨s0, s1⟩
    go_simp
    with_reducible rfl
  rotate_left
  · simp only [Act.put, List.setIfInBounds_toArray, List.set_cons_zero, List.set_cons_succ, i64_w, i32_w]
    rfl
  refine pure_ (i := 10) (N := some 23) (v := ?_) (a' := ?_) #[true, true, true, true, true, true, true, true, true, true, true, false] rfl rfl (by kernel_rfl) (fun _ _ _ h => h) (Or.inl ⟨by rfl, ?_⟩) ?_ ?_
  rotate_left
  · intro w'
    go_simp
    with_reducible rfl
  rotate_left
  · simp only [Act.put, List.setIfInBounds_toArray, List.set_cons_zero, List.set_cons_succ, i64_w, i32_w]
    rfl
  refine last_ (i := 11) (N := none) #[true, true, true, true, true, true, true, true, true, true, true, true] rfl rfl (by kernel_rfl) (by decide) (fun K hK => ?_)
  refine skip_ (w1 := w3.drew.setCells gr 0 (#[.int .i64 1, .int .i64 node, .int .i64 x, .int .i64 y, .int .i64 ww, .int .i64 hh, .int .i64 col, .int .i64 0, .string ⟨#[]⟩] : Array Value).toList) (by rfl) rfl ?_ ?_
  · exact store_run 45 (.tmp 12) (.tmp 23) gr #[.int .i64 1, .int .i64 node, .int .i64 x, .int .i64 y, .int .i64 ww, .int .i64 hh, .int .i64 col, .int .i64 0, .string ⟨#[]⟩] rfl rfl rfl (there_row (cs := #[.int .i64 0, .int .i64 0, .int .i64 0, .int .i64 0, .int .i64 0, .int .i64 0, .int .i64 0, .int .i64 0, .string ⟨#[]⟩]) (show w3.drew.heap[gr]? = _ from HR.out) _ (Nat.le_refl 9)) (by kernel_rfl) (all_oneCell_toArray (cs := [.int .i64 1, .int .i64 node, .int .i64 x, .int .i64 y, .int .i64 ww, .int .i64 hh, .int .i64 col, .int .i64 0, .string ⟨#[]⟩]) (by intro v hv; simp only [List.mem_cons, List.not_mem_nil, or_false] at hv; rcases hv with rfl | rfl | rfl | rfl | rfl | rfl | rfl | rfl | rfl <;> rfl))
  refine hK.out _ _ ?_
  clear hK K
  refine done_ (by kernel_rfl) ?_
  go_wp2
  refine bodyPost_ret (results_cell_row rfl _ _ gr 45 #[.int .i64 1, .int .i64 node, .int .i64 x, .int .i64 y, .int .i64 ww, .int .i64 hh, .int .i64 col, .int .i64 0, .string ⟨#[]⟩] (0, 0) _ rfl ?_ Try.underlying45 rfl (by kernel_rfl)) rfl ⟨rfl, ?_⟩
  · exact sets_row (vs := #[.int .i64 1, .int .i64 node, .int .i64 x, .int .i64 y, .int .i64 ww, .int .i64 hh, .int .i64 col, .int .i64 0, .string ⟨#[]⟩]) (show w3.drew.heap[gr]? = _ from HR.out) (by rfl)
  · exact sets_below HG.out _ 0 _ (below_drew1 HB3.out)
set_option maxHeartbeats 8000000 in
set_option maxRecDepth 100000 in
theorem paint_Frag_1_25.calls (f : Fr) (xs : List Int) (hl : xs.length = 118) (x y ww hh : Int) (gf gs : Nat) (w : World) (hf : w.heap[gf]? = some (.cells (frc f) 41 (0, 0))) (hs : w.heap[gs]? = some (.cells (nums .i64 xs).toArray 25 (0, 0))) :
    Calls Try.prog 59 #[.int .i64 x, .int .i64 y, .int .i64 ww, .int .i64 hh, .int .i64 25, .pointer (some ⟨gf, 0, none⟩), .pointer (some ⟨gs, 0, none⟩)] w fun e w' => e = .returned (cmdv f.f1 x y ww hh (xs.getD 51 0)) ∧ Below w.heap.size w w' := by
  unfold cmdv
  have v1 : w.cell? ⟨gf, 1, none⟩ = some (.int .i64 f.f1) := (blk_cell hf 1).trans rfl
  have vc : w.cell? ⟨gs, 51, none⟩ = some (.int .i64 (xs.getD 51 0)) := (blk_cell hs 51).trans (by simp [nums, hl])
  have HF := Aside0.mk v1
  have HS := Aside0.mk vc
  clear hf hs v1 vc
  generalize f.f1 = node at HF ⊢
  generalize xs.getD 51 0 = col at HS ⊢
  have HB := Aside0.mk (Below.refl w.heap.size w)
  go_enter Try.func59, Try.ntmps59
  go_wp2_with ((with_reducible refine gate_dst (N := 12) rfl ?_); refine box_event rfl (N := 12) rfl (cs := #[.int .i64 0, .int .i64 0, .int .i64 0, .int .i64 0, .int .i64 0, .int .i64 0, .int .i64 0, .int .i64 0, .string ⟨#[]⟩]) (t := 45) (by first | (go_simp; done) | (go_simp; rfl)) ?_; intro gr hgr w3 hbx hb; have HR := Aside0.mk hbx; have HG := Aside0.mk (show w.heap.size ≤ gr by omega); have v1 := (hb.cell (World.block_lt_of_cell? w _ HF.out)).trans HF.out; have vc := (hb.cell (World.block_lt_of_cell? w _ HS.out)).trans HS.out; have HB3 := Aside0.mk (below_step HB.out hb); clear hgr hbx hb)
  refine start_ (n := 12) (S := fun w' => w'.cell? ⟨gf, 1, none⟩ = some (.int .i64 node) ∧ w'.cell? ⟨gs, 51, none⟩ = some (.int .i64 col)) (ds := [11]) #[false, false, false, false, false, false, false, false, false, false, false, false] (by kernel_rfl) rfl rfl ⟨v1, vc⟩ (fun hHeld => ?_)
  refine pure_ (i := 0) (N := some 13) (v := ?_) (a' := ?_) #[true, false, false, false, false, false, false, false, false, false, false, false] rfl rfl (by kernel_rfl) (fun _ _ _ h => h) (Or.inl ⟨by rfl, ?_⟩) ?_ ?_
  rotate_left
  · intro w'
    go_simp
    with_reducible rfl
  rotate_left
  · simp only [Act.put, List.setIfInBounds_toArray, List.set_cons_zero, List.set_cons_succ, i64_w, i32_w]
    rfl
  refine pure_ (i := 2) (N := some 15) (v := ?_) (a' := ?_) #[true, false, true, false, false, false, false, false, false, false, false, false] rfl rfl (by kernel_rfl) (fun _ _ _ h => h) (Or.inl ⟨by rfl, ?_⟩) ?_ ?_
  rotate_left
  · intro w'
    go_simp
    with_reducible rfl
  rotate_left
  · simp only [Act.put, List.setIfInBounds_toArray, List.set_cons_zero, List.set_cons_succ, i64_w, i32_w]
    rfl
  refine pure_ (i := 3) (N := some 16) (v := ?_) (a' := ?_) #[true, false, true, true, false, false, false, false, false, false, false, false] rfl rfl (by kernel_rfl) (fun _ _ _ h => h) (Or.inl ⟨by rfl, ?_⟩) ?_ ?_
  rotate_left
  · intro w'
    go_simp
    with_reducible rfl
  rotate_left
  · simp only [Act.put, List.setIfInBounds_toArray, List.set_cons_zero, List.set_cons_succ, i64_w, i32_w]
    rfl
  refine pure_ (i := 4) (N := some 17) (v := ?_) (a' := ?_) #[true, false, true, true, true, false, false, false, false, false, false, false] rfl rfl (by kernel_rfl) (fun _ _ _ h => h) (Or.inl ⟨by rfl, ?_⟩) ?_ ?_
  rotate_left
  · intro w'
    go_simp
    with_reducible rfl
  rotate_left
  · simp only [Act.put, List.setIfInBounds_toArray, List.set_cons_zero, List.set_cons_succ, i64_w, i32_w]
    rfl
  refine pure_ (i := 5) (N := some 18) (v := ?_) (a' := ?_) #[true, false, true, true, true, true, false, false, false, false, false, false] rfl rfl (by kernel_rfl) (fun _ _ _ h => h) (Or.inl ⟨by rfl, ?_⟩) ?_ ?_
  rotate_left
  · intro w'
    go_simp
    with_reducible rfl
  rotate_left
  · simp only [Act.put, List.setIfInBounds_toArray, List.set_cons_zero, List.set_cons_succ, i64_w, i32_w]
    rfl
  refine pure_ (i := 6) (N := some 19) (v := ?_) (a' := ?_) #[true, false, true, true, true, true, true, false, false, false, false, false] rfl rfl (by kernel_rfl) (fun _ _ _ h => h) (Or.inl ⟨by rfl, ?_⟩) ?_ ?_
  rotate_left
  · intro w'
    go_simp
    with_reducible rfl
  rotate_left
  · simp only [Act.put, List.setIfInBounds_toArray, List.set_cons_zero, List.set_cons_succ, i64_w, i32_w]
    rfl
  refine pure_ (i := 7) (N := some 20) (v := ?_) (a' := ?_) #[true, false, true, true, true, true, true, true, false, false, false, false] rfl rfl (by kernel_rfl) (fun _ _ _ h => h) (Or.inl ⟨by rfl, ?_⟩) ?_ ?_
  rotate_left
  · intro w'
    go_simp
    with_reducible rfl
  rotate_left
  · simp only [Act.put, List.setIfInBounds_toArray, List.set_cons_zero, List.set_cons_succ, i64_w, i32_w]
    rfl
  refine pure_ (i := 8) (N := some 21) (v := ?_) (a' := ?_) #[true, false, true, true, true, true, true, true, true, false, false, false] rfl rfl (by kernel_rfl) (fun _ _ _ h => h) (Or.inl ⟨by rfl, ?_⟩) ?_ ?_
  rotate_left
  · intro w'
    go_simp
    with_reducible rfl
  rotate_left
  · simp only [Act.put, List.setIfInBounds_toArray, List.set_cons_zero, List.set_cons_succ, i64_w, i32_w]
    rfl
  refine take_ (i := 1) (N := some 14) (v := ?_) (a' := ?_) #[true, true, true, true, true, true, true, true, true, false, false, false] rfl rfl (by kernel_rfl) (fun _ _ _ h => h) (Or.inl ⟨by rfl, ?_⟩) hHeld ?_ ?_
  rotate_left
  · rintro w' ⟨s0, s1⟩
    go_simp
    with_reducible rfl
  rotate_left
  · simp only [Act.put, List.setIfInBounds_toArray, List.set_cons_zero, List.set_cons_succ, i64_w, i32_w]
    rfl
  refine take_ (i := 9) (N := some 22) (v := ?_) (a' := ?_) #[true, true, true, true, true, true, true, true, true, true, false, false] rfl rfl (by kernel_rfl) (fun _ _ _ h => h) (Or.inl ⟨by rfl, ?_⟩) hHeld ?_ ?_
  rotate_left
  · rintro w' ⟨s0, s1⟩
    go_simp
    with_reducible rfl
  rotate_left
  · simp only [Act.put, List.setIfInBounds_toArray, List.set_cons_zero, List.set_cons_succ, i64_w, i32_w]
    rfl
  refine pure_ (i := 10) (N := some 23) (v := ?_) (a' := ?_) #[true, true, true, true, true, true, true, true, true, true, true, false] rfl rfl (by kernel_rfl) (fun _ _ _ h => h) (Or.inl ⟨by rfl, ?_⟩) ?_ ?_
  rotate_left
  · intro w'
    go_simp
    with_reducible rfl
  rotate_left
  · simp only [Act.put, List.setIfInBounds_toArray, List.set_cons_zero, List.set_cons_succ, i64_w, i32_w]
    rfl
  refine last_ (i := 11) (N := none) #[true, true, true, true, true, true, true, true, true, true, true, true] rfl rfl (by kernel_rfl) (by decide) (fun K hK => ?_)
  refine skip_ (w1 := w3.drew.setCells gr 0 (#[.int .i64 1, .int .i64 node, .int .i64 x, .int .i64 y, .int .i64 ww, .int .i64 hh, .int .i64 col, .int .i64 0, .string ⟨#[]⟩] : Array Value).toList) (by rfl) rfl ?_ ?_
  · exact store_run 45 (.tmp 12) (.tmp 23) gr #[.int .i64 1, .int .i64 node, .int .i64 x, .int .i64 y, .int .i64 ww, .int .i64 hh, .int .i64 col, .int .i64 0, .string ⟨#[]⟩] rfl rfl rfl (there_row (cs := #[.int .i64 0, .int .i64 0, .int .i64 0, .int .i64 0, .int .i64 0, .int .i64 0, .int .i64 0, .int .i64 0, .string ⟨#[]⟩]) (show w3.drew.heap[gr]? = _ from HR.out) _ (Nat.le_refl 9)) (by kernel_rfl) (all_oneCell_toArray (cs := [.int .i64 1, .int .i64 node, .int .i64 x, .int .i64 y, .int .i64 ww, .int .i64 hh, .int .i64 col, .int .i64 0, .string ⟨#[]⟩]) (by intro v hv; simp only [List.mem_cons, List.not_mem_nil, or_false] at hv; rcases hv with rfl | rfl | rfl | rfl | rfl | rfl | rfl | rfl | rfl <;> rfl))
  refine hK.out _ _ ?_
  clear hK K
  refine done_ (by kernel_rfl) ?_
  go_wp2
  refine bodyPost_ret (results_cell_row rfl _ _ gr 45 #[.int .i64 1, .int .i64 node, .int .i64 x, .int .i64 y, .int .i64 ww, .int .i64 hh, .int .i64 col, .int .i64 0, .string ⟨#[]⟩] (0, 0) _ rfl ?_ Try.underlying45 rfl (by kernel_rfl)) rfl ⟨rfl, ?_⟩
  · exact sets_row (vs := #[.int .i64 1, .int .i64 node, .int .i64 x, .int .i64 y, .int .i64 ww, .int .i64 hh, .int .i64 col, .int .i64 0, .string ⟨#[]⟩]) (show w3.drew.heap[gr]? = _ from HR.out) (by rfl)
  · exact sets_below HG.out _ 0 _ (below_drew1 HB3.out)
set_option maxHeartbeats 8000000 in
set_option maxRecDepth 100000 in
theorem paint_Frag_1_26.calls (f : Fr) (xs : List Int) (hl : xs.length = 118) (x y ww hh : Int) (gf gs : Nat) (w : World) (hf : w.heap[gf]? = some (.cells (frc f) 41 (0, 0))) (hs : w.heap[gs]? = some (.cells (nums .i64 xs).toArray 25 (0, 0))) :
    Calls Try.prog 59 #[.int .i64 x, .int .i64 y, .int .i64 ww, .int .i64 hh, .int .i64 26, .pointer (some ⟨gf, 0, none⟩), .pointer (some ⟨gs, 0, none⟩)] w fun e w' => e = .returned (cmdv f.f1 x y ww hh (xs.getD 53 0)) ∧ Below w.heap.size w w' := by
  unfold cmdv
  have v1 : w.cell? ⟨gf, 1, none⟩ = some (.int .i64 f.f1) := (blk_cell hf 1).trans rfl
  have vc : w.cell? ⟨gs, 53, none⟩ = some (.int .i64 (xs.getD 53 0)) := (blk_cell hs 53).trans (by simp [nums, hl])
  have HF := Aside0.mk v1
  have HS := Aside0.mk vc
  clear hf hs v1 vc
  generalize f.f1 = node at HF ⊢
  generalize xs.getD 53 0 = col at HS ⊢
  have HB := Aside0.mk (Below.refl w.heap.size w)
  go_enter Try.func59, Try.ntmps59
  go_wp2_with ((with_reducible refine gate_dst (N := 12) rfl ?_); refine box_event rfl (N := 12) rfl (cs := #[.int .i64 0, .int .i64 0, .int .i64 0, .int .i64 0, .int .i64 0, .int .i64 0, .int .i64 0, .int .i64 0, .string ⟨#[]⟩]) (t := 45) (by first | (go_simp; done) | (go_simp; rfl)) ?_; intro gr hgr w3 hbx hb; have HR := Aside0.mk hbx; have HG := Aside0.mk (show w.heap.size ≤ gr by omega); have v1 := (hb.cell (World.block_lt_of_cell? w _ HF.out)).trans HF.out; have vc := (hb.cell (World.block_lt_of_cell? w _ HS.out)).trans HS.out; have HB3 := Aside0.mk (below_step HB.out hb); clear hgr hbx hb)
  refine start_ (n := 12) (S := fun w' => w'.cell? ⟨gf, 1, none⟩ = some (.int .i64 node) ∧ w'.cell? ⟨gs, 53, none⟩ = some (.int .i64 col)) (ds := [11]) #[false, false, false, false, false, false, false, false, false, false, false, false] (by kernel_rfl) rfl rfl ⟨v1, vc⟩ (fun hHeld => ?_)
  refine pure_ (i := 0) (N := some 13) (v := ?_) (a' := ?_) #[true, false, false, false, false, false, false, false, false, false, false, false] rfl rfl (by kernel_rfl) (fun _ _ _ h => h) (Or.inl ⟨by rfl, ?_⟩) ?_ ?_
  rotate_left
  · intro w'
    go_simp
    with_reducible rfl
  rotate_left
  · simp only [Act.put, List.setIfInBounds_toArray, List.set_cons_zero, List.set_cons_succ, i64_w, i32_w]
    rfl
  refine pure_ (i := 2) (N := some 15) (v := ?_) (a' := ?_) #[true, false, true, false, false, false, false, false, false, false, false, false] rfl rfl (by kernel_rfl) (fun _ _ _ h => h) (Or.inl ⟨by rfl, ?_⟩) ?_ ?_
  rotate_left
  · intro w'
    go_simp
    with_reducible rfl
  rotate_left
  · simp only [Act.put, List.setIfInBounds_toArray, List.set_cons_zero, List.set_cons_succ, i64_w, i32_w]
    rfl
  refine pure_ (i := 3) (N := some 16) (v := ?_) (a' := ?_) #[true, false, true, true, false, false, false, false, false, false, false, false] rfl rfl (by kernel_rfl) (fun _ _ _ h => h) (Or.inl ⟨by rfl, ?_⟩) ?_ ?_
  rotate_left
  · intro w'
    go_simp
    with_reducible rfl
  rotate_left
  · simp only [Act.put, List.setIfInBounds_toArray, List.set_cons_zero, List.set_cons_succ, i64_w, i32_w]
    rfl
  refine pure_ (i := 4) (N := some 17) (v := ?_) (a' := ?_) #[true, false, true, true, true, false, false, false, false, false, false, false] rfl rfl (by kernel_rfl) (fun _ _ _ h => h) (Or.inl ⟨by rfl, ?_⟩) ?_ ?_
  rotate_left
  · intro w'
    go_simp
    with_reducible rfl
  rotate_left
  · simp only [Act.put, List.setIfInBounds_toArray, List.set_cons_zero, List.set_cons_succ, i64_w, i32_w]
    rfl
  refine pure_ (i := 5) (N := some 18) (v := ?_) (a' := ?_) #[true, false, true, true, true, true, false, false, false, false, false, false] rfl rfl (by kernel_rfl) (fun _ _ _ h => h) (Or.inl ⟨by rfl, ?_⟩) ?_ ?_
  rotate_left
  · intro w'
    go_simp
    with_reducible rfl
  rotate_left
  · simp only [Act.put, List.setIfInBounds_toArray, List.set_cons_zero, List.set_cons_succ, i64_w, i32_w]
    rfl
  refine pure_ (i := 6) (N := some 19) (v := ?_) (a' := ?_) #[true, false, true, true, true, true, true, false, false, false, false, false] rfl rfl (by kernel_rfl) (fun _ _ _ h => h) (Or.inl ⟨by rfl, ?_⟩) ?_ ?_
  rotate_left
  · intro w'
    go_simp
    with_reducible rfl
  rotate_left
  · simp only [Act.put, List.setIfInBounds_toArray, List.set_cons_zero, List.set_cons_succ, i64_w, i32_w]
    rfl
  refine pure_ (i := 7) (N := some 20) (v := ?_) (a' := ?_) #[true, false, true, true, true, true, true, true, false, false, false, false] rfl rfl (by kernel_rfl) (fun _ _ _ h => h) (Or.inl ⟨by rfl, ?_⟩) ?_ ?_
  rotate_left
  · intro w'
    go_simp
    with_reducible rfl
  rotate_left
  · simp only [Act.put, List.setIfInBounds_toArray, List.set_cons_zero, List.set_cons_succ, i64_w, i32_w]
    rfl
  refine pure_ (i := 8) (N := some 21) (v := ?_) (a' := ?_) #[true, false, true, true, true, true, true, true, true, false, false, false] rfl rfl (by kernel_rfl) (fun _ _ _ h => h) (Or.inl ⟨by rfl, ?_⟩) ?_ ?_
  rotate_left
  · intro w'
    go_simp
    with_reducible rfl
  rotate_left
  · simp only [Act.put, List.setIfInBounds_toArray, List.set_cons_zero, List.set_cons_succ, i64_w, i32_w]
    rfl
  refine take_ (i := 1) (N := some 14) (v := ?_) (a' := ?_) #[true, true, true, true, true, true, true, true, true, false, false, false] rfl rfl (by kernel_rfl) (fun _ _ _ h => h) (Or.inl ⟨by rfl, ?_⟩) hHeld ?_ ?_
  rotate_left
  · rintro w' ⟨s0, s1⟩
    go_simp
    with_reducible rfl
  rotate_left
  · simp only [Act.put, List.setIfInBounds_toArray, List.set_cons_zero, List.set_cons_succ, i64_w, i32_w]
    rfl
  refine take_ (i := 9) (N := some 22) (v := ?_) (a' := ?_) #[true, true, true, true, true, true, true, true, true, true, false, false] rfl rfl (by kernel_rfl) (fun _ _ _ h => h) (Or.inl ⟨by rfl, ?_⟩) hHeld ?_ ?_
  rotate_left
  · rintro w' ⟨s0, s1⟩
    go_simp
    with_reducible rfl
  rotate_left
  · simp only [Act.put, List.setIfInBounds_toArray, List.set_cons_zero, List.set_cons_succ, i64_w, i32_w]
    rfl
  refine pure_ (i := 10) (N := some 23) (v := ?_) (a' := ?_) #[true, true, true, true, true, true, true, true, true, true, true, false] rfl rfl (by kernel_rfl) (fun _ _ _ h => h) (Or.inl ⟨by rfl, ?_⟩) ?_ ?_
  rotate_left
  · intro w'
    go_simp
    with_reducible rfl
  rotate_left
  · simp only [Act.put, List.setIfInBounds_toArray, List.set_cons_zero, List.set_cons_succ, i64_w, i32_w]
    rfl
  refine last_ (i := 11) (N := none) #[true, true, true, true, true, true, true, true, true, true, true, true] rfl rfl (by kernel_rfl) (by decide) (fun K hK => ?_)
  refine skip_ (w1 := w3.drew.setCells gr 0 (#[.int .i64 1, .int .i64 node, .int .i64 x, .int .i64 y, .int .i64 ww, .int .i64 hh, .int .i64 col, .int .i64 0, .string ⟨#[]⟩] : Array Value).toList) (by rfl) rfl ?_ ?_
  · exact store_run 45 (.tmp 12) (.tmp 23) gr #[.int .i64 1, .int .i64 node, .int .i64 x, .int .i64 y, .int .i64 ww, .int .i64 hh, .int .i64 col, .int .i64 0, .string ⟨#[]⟩] rfl rfl rfl (there_row (cs := #[.int .i64 0, .int .i64 0, .int .i64 0, .int .i64 0, .int .i64 0, .int .i64 0, .int .i64 0, .int .i64 0, .string ⟨#[]⟩]) (show w3.drew.heap[gr]? = _ from HR.out) _ (Nat.le_refl 9)) (by kernel_rfl) (all_oneCell_toArray (cs := [.int .i64 1, .int .i64 node, .int .i64 x, .int .i64 y, .int .i64 ww, .int .i64 hh, .int .i64 col, .int .i64 0, .string ⟨#[]⟩]) (by intro v hv; simp only [List.mem_cons, List.not_mem_nil, or_false] at hv; rcases hv with rfl | rfl | rfl | rfl | rfl | rfl | rfl | rfl | rfl <;> rfl))
  refine hK.out _ _ ?_
  clear hK K
  refine done_ (by kernel_rfl) ?_
  go_wp2
  refine bodyPost_ret (results_cell_row rfl _ _ gr 45 #[.int .i64 1, .int .i64 node, .int .i64 x, .int .i64 y, .int .i64 ww, .int .i64 hh, .int .i64 col, .int .i64 0, .string ⟨#[]⟩] (0, 0) _ rfl ?_ Try.underlying45 rfl (by kernel_rfl)) rfl ⟨rfl, ?_⟩
  · exact sets_row (vs := #[.int .i64 1, .int .i64 node, .int .i64 x, .int .i64 y, .int .i64 ww, .int .i64 hh, .int .i64 col, .int .i64 0, .string ⟨#[]⟩]) (show w3.drew.heap[gr]? = _ from HR.out) (by rfl)
  · exact sets_below HG.out _ 0 _ (below_drew1 HB3.out)
end Go.Proofs.Ytaejmgdpnnhpmaa.QSty
