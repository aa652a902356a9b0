/- margins.Frame, walked by hand: margins, borders, paddings. -/
import Derived.Test.YtaejmgdpnnhpmaaStyFrame
namespace Go.Proofs.Ytaejmgdpnnhpmaa.QSty
open Go.RowKit Go.Proofs.YtaejmgdpnnhpmaaW.PrintWords Go.Proofs.YtaejmgdpnnhpmaaW.PrintLast Go.Proofs.YtaejmgdpnnhpmaaW.PrintMore
set_option linter.unusedVariables false
set_option linter.unusedSimpArgs false
set_option maxHeartbeats 8000000 in
set_option maxRecDepth 100000 in
theorem margins_Frame.calls (xs : List Int) (room : Int) (hl : xs.length = 118) (w : World) :
    Calls Try.prog 13 #[sty xs, .int .i64 room] w fun e w' => e = .returned (.tuple #[edg xs 11 room, edgA xs 19 room, edgA xs 15 room]) ∧ Below w.heap.size w w' := by
  have HC : ∀ p, 0 ≤ p → p ≤ 100 → ∀ (gs gm : Nat) (w : World), w.heap[gs]? = some (.cells (nums .i64 xs).toArray 25 (0, 0)) → w.heap[gm]? = some (.cells #[.int .i64 room] 3 (0, 0)) → Calls Try.prog 45 #[.int .i64 p, .pointer (some ⟨gs, 0, none⟩), .pointer (some ⟨gm, 0, none⟩)] w fun e w' => e = .returned (edg xs p room) ∧ Below w.heap.size w w' := fun p h0 h1 gs gm w hs hm => margins_Frame_1.calls xs p room hl h0 h1 gs gm w hs hm
  have C11 := HC 11 (by omega) (by omega)
  have C19 := HC 19 (by omega) (by omega)
  have C15 := HC 15 (by omega) (by omega)
  unfold edg edgA agg4 at *
  simp only [Int.reduceAdd] at C11 C19 C15 ⊢
  obtain ⟨e11_0, he11_0⟩ : ∃ e, edg1 xs 11 room = e := ⟨_, rfl⟩
  obtain ⟨e11_1, he11_1⟩ : ∃ e, edg1 xs 12 room = e := ⟨_, rfl⟩
  obtain ⟨e11_2, he11_2⟩ : ∃ e, edg1 xs 13 room = e := ⟨_, rfl⟩
  obtain ⟨e11_3, he11_3⟩ : ∃ e, edg1 xs 14 room = e := ⟨_, rfl⟩
  obtain ⟨e19_0, he19_0⟩ : ∃ e, edg1 xs 19 room = e := ⟨_, rfl⟩
  obtain ⟨e19_1, he19_1⟩ : ∃ e, edg1 xs 20 room = e := ⟨_, rfl⟩
  obtain ⟨e19_2, he19_2⟩ : ∃ e, edg1 xs 21 room = e := ⟨_, rfl⟩
  obtain ⟨e19_3, he19_3⟩ : ∃ e, edg1 xs 22 room = e := ⟨_, rfl⟩
  obtain ⟨e15_0, he15_0⟩ : ∃ e, edg1 xs 15 room = e := ⟨_, rfl⟩
  obtain ⟨e15_1, he15_1⟩ : ∃ e, edg1 xs 16 room = e := ⟨_, rfl⟩
  obtain ⟨e15_2, he15_2⟩ : ∃ e, edg1 xs 17 room = e := ⟨_, rfl⟩
  obtain ⟨e15_3, he15_3⟩ : ∃ e, edg1 xs 18 room = e := ⟨_, rfl⟩
  rw [he11_0, he11_1, he11_2, he11_3] at C11
  rw [he19_0, he19_1, he19_2, he19_3] at C19
  rw [he15_0, he15_1, he15_2, he15_3] at C15
  rw [he11_0, he11_1, he11_2, he11_3, he19_0, he19_1, he19_2, he19_3, he15_0, he15_1, he15_2, he15_3]
  clear HC he11_0 he11_1 he11_2 he11_3 he19_0 he19_1 he19_2 he19_3 he15_0 he15_1 he15_2 he15_3
  have A19 : ∀ w, Calls Try.prog 46 #[.agg #[.int .i64 e19_0, .int .i64 e19_1, .int .i64 e19_2, .int .i64 e19_3]] w fun e w' => e = .returned (.agg #[.int .i64 (mx 0 e19_0), .int .i64 (mx 0 e19_1), .int .i64 (mx 0 e19_2), .int .i64 (mx 0 e19_3)]) ∧ Below w.heap.size w w' := fun w => margins_above.calls e19_0 e19_1 e19_2 e19_3 _ _ _ _ w rfl
  obtain ⟨m19_0, hm19_0⟩ : ∃ m, mx 0 e19_0 = m := ⟨_, rfl⟩
  obtain ⟨m19_1, hm19_1⟩ : ∃ m, mx 0 e19_1 = m := ⟨_, rfl⟩
  obtain ⟨m19_2, hm19_2⟩ : ∃ m, mx 0 e19_2 = m := ⟨_, rfl⟩
  obtain ⟨m19_3, hm19_3⟩ : ∃ m, mx 0 e19_3 = m := ⟨_, rfl⟩
  rw [hm19_0, hm19_1, hm19_2, hm19_3] at A19 ⊢
  clear hm19_0 hm19_1 hm19_2 hm19_3
  have A15 : ∀ w, Calls Try.prog 46 #[.agg #[.int .i64 e15_0, .int .i64 e15_1, .int .i64 e15_2, .int .i64 e15_3]] w fun e w' => e = .returned (.agg #[.int .i64 (mx 0 e15_0), .int .i64 (mx 0 e15_1), .int .i64 (mx 0 e15_2), .int .i64 (mx 0 e15_3)]) ∧ Below w.heap.size w w' := fun w => margins_above.calls e15_0 e15_1 e15_2 e15_3 _ _ _ _ w rfl
  obtain ⟨m15_0, hm15_0⟩ : ∃ m, mx 0 e15_0 = m := ⟨_, rfl⟩
  obtain ⟨m15_1, hm15_1⟩ : ∃ m, mx 0 e15_1 = m := ⟨_, rfl⟩
  obtain ⟨m15_2, hm15_2⟩ : ∃ m, mx 0 e15_2 = m := ⟨_, rfl⟩
  obtain ⟨m15_3, hm15_3⟩ : ∃ m, mx 0 e15_3 = m := ⟨_, rfl⟩
  rw [hm15_0, hm15_1, hm15_2, hm15_3] at A15 ⊢
  clear hm15_0 hm15_1 hm15_2 hm15_3
  unfold sty
  obtain ⟨a, ha⟩ : ∃ a, (nums .i64 xs).toArray = a := ⟨_, rfl⟩
  rw [ha] at C11 C19 C15 ⊢
  clear ha hl
  have K11 := Aside0.mk C11
  have K19 := Aside0.mk C19
  have K15 := Aside0.mk C15
  have L19 := Aside0.mk A19
  have L15 := Aside0.mk A15
  clear C11 C19 C15 A19 A15
  have HB := Aside0.mk (Below.refl w.heap.size w)
  go_enter Try.func13, Try.ntmps13
  go_wp2_with (first
    | ((with_reducible refine gate_dst (N := 2) rfl ?_); refine box_event rfl (N := 2) rfl (cs := a) (t := 25) (by first | (go_simp; done) | (go_simp; rfl)) ?_; intro gs hgs w1 hbx hb; have BS1 := Aside0.mk hbx; have HGgs := Aside0.mk (show w.heap.size ≤ gs by have := HB.out.size; omega); have HEgs := Aside0.mk hgs; have HB1 := Aside0.mk (below_step HB.out hb); clear hgs hbx hb)
    | ((with_reducible refine gate_dst (N := 3) rfl ?_); refine box_event rfl (N := 3) rfl (cs := #[.int .i64 room]) (t := 3) (by first | (go_simp; done) | (go_simp; rfl)) ?_; intro gm hgm w2 hbx hb; have BM2 := Aside0.mk hbx; have HGgm := Aside0.mk (show w.heap.size ≤ gm by have := HB1.out.size; omega); have HEgm := Aside0.mk hgm; have BS2 := Aside0.mk (blk_below BS1.out hb); have HB2 := Aside0.mk (below_step HB1.out hb); clear hgm hbx hb)
    | ((with_reducible refine gate_dst (N := 4) rfl ?_); refine box_event rfl (N := 4) rfl (cs := #[.int .i64 0, .int .i64 0, .int .i64 0, .int .i64 0]) (t := 28) (by first | (go_simp; done) | (go_simp; rfl)) ?_; intro g4 hg4 w3 hbx hb; have B4_3 := Aside0.mk hbx; have HGg4 := Aside0.mk (show w.heap.size ≤ g4 by have := HB2.out.size; omega); have HEg4 := Aside0.mk hg4; have BS3 := Aside0.mk (blk_below BS2.out hb); have BM3 := Aside0.mk (blk_below BM2.out hb); have HB3 := Aside0.mk (below_step HB2.out hb); clear hg4 hbx hb)
    | ((with_reducible refine gate_dst (N := 5) rfl ?_); refine box_event rfl (N := 5) rfl (cs := #[.int .i64 0, .int .i64 0, .int .i64 0, .int .i64 0]) (t := 28) (by first | (go_simp; done) | (go_simp; rfl)) ?_; intro g5 hg5 w4 hbx hb; have B5_4 := Aside0.mk hbx; have HGg5 := Aside0.mk (show w.heap.size ≤ g5 by have := HB3.out.size; omega); have HEg5 := Aside0.mk hg5; have BS4 := Aside0.mk (blk_below BS3.out hb); have BM4 := Aside0.mk (blk_below BM3.out hb); have B4_4 := Aside0.mk (blk_below B4_3.out hb); have HB4 := Aside0.mk (below_step HB3.out hb); clear hg5 hbx hb)
    | ((with_reducible refine gate_dst (N := 6) rfl ?_); refine box_event rfl (N := 6) rfl (cs := #[.int .i64 0, .int .i64 0, .int .i64 0, .int .i64 0]) (t := 28) (by first | (go_simp; done) | (go_simp; rfl)) ?_; intro g6 hg6 w5 hbx hb; have B6_5 := Aside0.mk hbx; have HGg6 := Aside0.mk (show w.heap.size ≤ g6 by have := HB4.out.size; omega); have HEg6 := Aside0.mk hg6; have BS5 := Aside0.mk (blk_below BS4.out hb); have BM5 := Aside0.mk (blk_below BM4.out hb); have B4_5 := Aside0.mk (blk_below B4_4.out hb); have B5_5 := Aside0.mk (blk_below B5_4.out hb); have HB5 := Aside0.mk (below_step HB4.out hb); clear hg6 hbx hb)
    | (go_at_call 45; (with_reducible refine (K11.out gs gm _ (by first | exact BSc.out | exact BS5.out) (by first | exact BMc.out | exact BM5.out)).mono ?_); rintro e wc ⟨rfl, hb⟩; have n0_ := Aside0.mk (blk_below (by first | exact BSc.out | exact BS5.out) hb); have n1_ := Aside0.mk (blk_below (by first | exact BMc.out | exact BM5.out) hb); have n2_ := Aside0.mk (blk_below (by first | exact B4_c.out | exact B4_5.out) hb); have n3_ := Aside0.mk (blk_below (by first | exact B5_c.out | exact B5_5.out) hb); have n4_ := Aside0.mk (blk_below (by first | exact B6_c.out | exact B6_5.out) hb); have n9_ := Aside0.mk (below_step (by first | exact HBc.out | exact HB5.out) hb); (try clear BSc BMc B4_c B5_c B6_c HBc); have BSc := n0_; have BMc := n1_; have B4_c := n2_; have B5_c := n3_; have B6_c := n4_; have HBc := n9_; clear n0_ n1_ n2_ n3_ n4_ n9_ hb)
    | (go_at_call 45; (with_reducible refine (K19.out gs gm _ (by first | exact BSc.out | exact BS5.out) (by first | exact BMc.out | exact BM5.out)).mono ?_); rintro e wc ⟨rfl, hb⟩; have n0_ := Aside0.mk (blk_below (by first | exact BSc.out | exact BS5.out) hb); have n1_ := Aside0.mk (blk_below (by first | exact BMc.out | exact BM5.out) hb); have n2_ := Aside0.mk (blk_below (by first | exact B4_c.out | exact B4_5.out) hb); have n3_ := Aside0.mk (blk_below (by first | exact B5_c.out | exact B5_5.out) hb); have n4_ := Aside0.mk (blk_below (by first | exact B6_c.out | exact B6_5.out) hb); have n9_ := Aside0.mk (below_step (by first | exact HBc.out | exact HB5.out) hb); (try clear BSc BMc B4_c B5_c B6_c HBc); have BSc := n0_; have BMc := n1_; have B4_c := n2_; have B5_c := n3_; have B6_c := n4_; have HBc := n9_; clear n0_ n1_ n2_ n3_ n4_ n9_ hb)
    | (go_at_call 45; (with_reducible refine (K15.out gs gm _ (by first | exact BSc.out | exact BS5.out) (by first | exact BMc.out | exact BM5.out)).mono ?_); rintro e wc ⟨rfl, hb⟩; have n0_ := Aside0.mk (blk_below (by first | exact BSc.out | exact BS5.out) hb); have n1_ := Aside0.mk (blk_below (by first | exact BMc.out | exact BM5.out) hb); have n2_ := Aside0.mk (blk_below (by first | exact B4_c.out | exact B4_5.out) hb); have n3_ := Aside0.mk (blk_below (by first | exact B5_c.out | exact B5_5.out) hb); have n4_ := Aside0.mk (blk_below (by first | exact B6_c.out | exact B6_5.out) hb); have n9_ := Aside0.mk (below_step (by first | exact HBc.out | exact HB5.out) hb); (try clear BSc BMc B4_c B5_c B6_c HBc); have BSc := n0_; have BMc := n1_; have B4_c := n2_; have B5_c := n3_; have B6_c := n4_; have HBc := n9_; clear n0_ n1_ n2_ n3_ n4_ n9_ hb)
    | (go_at_call 46; (with_reducible refine (L19.out _).mono ?_); rintro e wc ⟨rfl, hb⟩; have n0_ := Aside0.mk (blk_below (by first | exact BSc.out | exact BS5.out) hb); have n1_ := Aside0.mk (blk_below (by first | exact BMc.out | exact BM5.out) hb); have n2_ := Aside0.mk (blk_below (by first | exact B4_c.out | exact B4_5.out) hb); have n3_ := Aside0.mk (blk_below (by first | exact B5_c.out | exact B5_5.out) hb); have n4_ := Aside0.mk (blk_below (by first | exact B6_c.out | exact B6_5.out) hb); have n9_ := Aside0.mk (below_step (by first | exact HBc.out | exact HB5.out) hb); (try clear BSc BMc B4_c B5_c B6_c HBc); have BSc := n0_; have BMc := n1_; have B4_c := n2_; have B5_c := n3_; have B6_c := n4_; have HBc := n9_; clear n0_ n1_ n2_ n3_ n4_ n9_ hb)
    | (go_at_call 46; (with_reducible refine (L15.out _).mono ?_); rintro e wc ⟨rfl, hb⟩; have n0_ := Aside0.mk (blk_below (by first | exact BSc.out | exact BS5.out) hb); have n1_ := Aside0.mk (blk_below (by first | exact BMc.out | exact BM5.out) hb); have n2_ := Aside0.mk (blk_below (by first | exact B4_c.out | exact B4_5.out) hb); have n3_ := Aside0.mk (blk_below (by first | exact B5_c.out | exact B5_5.out) hb); have n4_ := Aside0.mk (blk_below (by first | exact B6_c.out | exact B6_5.out) hb); have n9_ := Aside0.mk (below_step (by first | exact HBc.out | exact HB5.out) hb); (try clear BSc BMc B4_c B5_c B6_c HBc); have BSc := n0_; have BMc := n1_; have B4_c := n2_; have B5_c := n3_; have B6_c := n4_; have HBc := n9_; clear n0_ n1_ n2_ n3_ n4_ n9_ hb; have h40 : wc.cell? ⟨g4, 0, none⟩ = some (.int .i64 0) := (blk_cell B4_c.out 0).trans rfl; have f40 := blk_frozen B4_c.out 0; have h41 : wc.cell? ⟨g4, 1, none⟩ = some (.int .i64 0) := (blk_cell B4_c.out 1).trans rfl; have f41 := blk_frozen B4_c.out 1; have h42 : wc.cell? ⟨g4, 2, none⟩ = some (.int .i64 0) := (blk_cell B4_c.out 2).trans rfl; have f42 := blk_frozen B4_c.out 2; have h43 : wc.cell? ⟨g4, 3, none⟩ = some (.int .i64 0) := (blk_cell B4_c.out 3).trans rfl; have f43 := blk_frozen B4_c.out 3; have h50 : wc.cell? ⟨g5, 0, none⟩ = some (.int .i64 0) := (blk_cell B5_c.out 0).trans rfl; have f50 := blk_frozen B5_c.out 0; have h51 : wc.cell? ⟨g5, 1, none⟩ = some (.int .i64 0) := (blk_cell B5_c.out 1).trans rfl; have f51 := blk_frozen B5_c.out 1; have h52 : wc.cell? ⟨g5, 2, none⟩ = some (.int .i64 0) := (blk_cell B5_c.out 2).trans rfl; have f52 := blk_frozen B5_c.out 2; have h53 : wc.cell? ⟨g5, 3, none⟩ = some (.int .i64 0) := (blk_cell B5_c.out 3).trans rfl; have f53 := blk_frozen B5_c.out 3; have h60 : wc.cell? ⟨g6, 0, none⟩ = some (.int .i64 0) := (blk_cell B6_c.out 0).trans rfl; have f60 := blk_frozen B6_c.out 0; have h61 : wc.cell? ⟨g6, 1, none⟩ = some (.int .i64 0) := (blk_cell B6_c.out 1).trans rfl; have f61 := blk_frozen B6_c.out 1; have h62 : wc.cell? ⟨g6, 2, none⟩ = some (.int .i64 0) := (blk_cell B6_c.out 2).trans rfl; have f62 := blk_frozen B6_c.out 2; have h63 : wc.cell? ⟨g6, 3, none⟩ = some (.int .i64 0) := (blk_cell B6_c.out 3).trans rfl; have f63 := blk_frozen B6_c.out 3; have D45 : g4 ≠ g5 := (by have h1 := blk_lt B4_3.out; have h2 := HEg5.out; omega); have D46 : g4 ≠ g6 := (by have h1 := blk_lt B4_4.out; have h2 := HEg6.out; omega); have D56 : g5 ≠ g6 := (by have h1 := blk_lt B5_4.out; have h2 := HEg6.out; omega); have D54 := D45.symm; have D64 := D46.symm; have D65 := D56.symm))
  refine bodyPost_ret (results_list (rs := [.cell 4 28, .cell 5 28, .cell 6 28]) rfl (by simp) (.cell g4 28 #[.int .i64 e11_0, .int .i64 e11_1, .int .i64 e11_2, .int .i64 e11_3] (0, 0) _ rfl ?h4 Try.underlying28 rfl (by kernel_rfl) (.cell g5 28 #[.int .i64 m19_0, .int .i64 m19_1, .int .i64 m19_2, .int .i64 m19_3] (0, 0) _ rfl ?h5 Try.underlying28 rfl (by kernel_rfl) (.cell g6 28 #[.int .i64 m15_0, .int .i64 m15_1, .int .i64 m15_2, .int .i64 m15_3] (0, 0) _ rfl ?h6 Try.underlying28 rfl (by kernel_rfl) .nil)))) rfl ⟨rfl, ?hb⟩
  case h4 => exact blk_far (blk_far (blk_far (blk_far (blk_far (blk_far (blk_far (blk_far (blk_put (blk_put (blk_put (blk_put (B4_c.out) 0 (.int .i64 e11_0) rfl) 1 (.int .i64 e11_1) rfl) 2 (.int .i64 e11_2) rfl) 3 (.int .i64 e11_3) rfl) D45 _) D45 _) D45 _) D45 _) D46 _) D46 _) D46 _) D46 _
  case h5 => exact blk_far (blk_far (blk_far (blk_far (blk_put (blk_put (blk_put (blk_put (blk_far (blk_far (blk_far (blk_far (B5_c.out) D54 _) D54 _) D54 _) D54 _) 0 (.int .i64 m19_0) rfl) 1 (.int .i64 m19_1) rfl) 2 (.int .i64 m19_2) rfl) 3 (.int .i64 m19_3) rfl) D56 _) D56 _) D56 _) D56 _
  case h6 => exact blk_put (blk_put (blk_put (blk_put (blk_far (blk_far (blk_far (blk_far (blk_far (blk_far (blk_far (blk_far (B6_c.out) D64 _) D64 _) D64 _) D64 _) D65 _) D65 _) D65 _) D65 _) 0 (.int .i64 m15_0) rfl) 1 (.int .i64 m15_1) rfl) 2 (.int .i64 m15_2) rfl) 3 (.int .i64 m15_3) rfl
  case hb =>
    exact (((((((((((HBc.out.setCell HGg4.out _).setCell HGg4.out _).setCell HGg4.out _).setCell HGg4.out _).setCell HGg5.out _).setCell HGg5.out _).setCell HGg5.out _).setCell HGg5.out _).setCell HGg6.out _).setCell HGg6.out _).setCell HGg6.out _).setCell HGg6.out _
end Go.Proofs.Ytaejmgdpnnhpmaa.QSty
