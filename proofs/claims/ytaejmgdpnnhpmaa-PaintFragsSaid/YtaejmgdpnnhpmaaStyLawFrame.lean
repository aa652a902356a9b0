/- The law MarginsFrame, walked by hand. -/
import Derived.Deep.RegionHeld3
import Derived.Test.YtaejmgdpnnhpmaaStyREdges
namespace Go.Proofs.Ytaejmgdpnnhpmaa.QSty
open Go.RowKit Go.Proofs.YtaejmgdpnnhpmaaW.PrintWords Go.Proofs.YtaejmgdpnnhpmaaW.PrintLast Go.Proofs.YtaejmgdpnnhpmaaW.PrintMore
set_option linter.unusedVariables false
set_option linter.unusedSimpArgs false
theorem met_yes (w : World) : Calls Try.prog 16 #[] w fun e w' => e = .returned (.bool true) ∧ Below w.heap.size w w' := clerestorylaw3_met.calls 20 true w (by decide +kernel)
section
variable {P : Program}
theorem load_run {oi : Oper} {a : Act} {w : World} (ty : TypeId) (x : Operand) (ho : oi.op = .load ty x) (g : Nat) (hx : a.eval x = .pointer (some ⟨g, 0, none⟩)) (t : TypeId) (cs : Array Value) (fr : Nat × Nat) (d : TypeDesc) (hg : w.heap[g]? = some (.cells cs t fr))
    (hu : P.underlying ty = some d) (hd : (match d with | .struct _ | .array _ _ => true | _ => false) = true) (hi : (P.info? ty).map (·.size) = some cs.size) : (execOp a.eval oi).run P w = .ok (.value (.agg cs)) w := by
  unfold execOp
  simp only [ho, hx, Instr.loadAt, Instr.sureAddr, Sem.run_bind, Sem.run_pure, Result.andThen_ok, run_loadVar_row w g t ty cs fr d hg hu hd hi]
end
set_option maxHeartbeats 8000000 in
set_option maxRecDepth 100000 in
theorem MarginsFrame (xs : List Int) (p0 p1 p2 p3 room : Int) (hl : xs.length = 118) (w : World) :
    Calls Try.prog 3 #[sty xs, .agg #[.int .i64 p0, .int .i64 p1, .int .i64 p2, .int .i64 p3], .int .i64 room] w fun e w' => e = .returned (.bool true) ∧ Below w.heap.size w w' := by
  have CF := fun w => margins_Frame.calls xs room hl w
  have CE := fun w => margins_Edges.calls xs p0 p1 p2 p3 room hl w
  have R11 := fun w => clerestoryref3_Edges.calls xs 11 room false hl (by omega) (by omega) w
  have R19 := fun w => clerestoryref3_Edges.calls xs 19 room true hl (by omega) (by omega) w
  have R15 := fun w => clerestoryref3_Edges.calls xs 15 room true hl (by omega) (by omega) w
  have q11 : edgU false xs 11 room = edg xs 11 room := rfl
  have q19 : edgU true xs 19 room = edgA xs 19 room := rfl
  have q15 : edgU true xs 15 room = edgA xs 15 room := rfl
  rw [q11] at R11
  rw [q19] at R19
  rw [q15] at R15
  clear q11 q19 q15
  obtain ⟨f0, f1, f2, f3, hf⟩ : ∃ f0 f1 f2 f3 : Int, edg xs 11 room = .agg #[.int .i64 f0, .int .i64 f1, .int .i64 f2, .int .i64 f3] := ⟨_, _, _, _, rfl⟩
  obtain ⟨g0, g1, g2, g3, hg⟩ : ∃ f0 f1 f2 f3 : Int, edgA xs 19 room = .agg #[.int .i64 f0, .int .i64 f1, .int .i64 f2, .int .i64 f3] := ⟨_, _, _, _, rfl⟩
  obtain ⟨h0, h1, h2, h3, hh⟩ : ∃ f0 f1 f2 f3 : Int, edgA xs 15 room = .agg #[.int .i64 f0, .int .i64 f1, .int .i64 f2, .int .i64 f3] := ⟨_, _, _, _, rfl⟩
  rw [hf] at CF R11
  rw [hg] at CF R19
  rw [hh] at CF R15
  clear hf hg hh
  obtain ⟨e0, he0⟩ : ∃ e, edg1 xs p0 room = e := ⟨_, rfl⟩
  obtain ⟨e1, he1⟩ : ∃ e, edg1 xs p1 room = e := ⟨_, rfl⟩
  obtain ⟨e2, he2⟩ : ∃ e, edg1 xs p2 room = e := ⟨_, rfl⟩
  obtain ⟨e3, he3⟩ : ∃ e, edg1 xs p3 room = e := ⟨_, rfl⟩
  rw [he0, he1, he2, he3] at CE
  unfold sty at *
  obtain ⟨a, ha⟩ : ∃ a, (nums .i64 xs).toArray = a := ⟨_, rfl⟩
  have hsz : a.size = 118 := by rw [← ha]; simp [nums, hl]
  rw [ha] at CF CE R11 R19 R15 ⊢
  have HF := Aside0.mk CF
  have HE := Aside0.mk CE
  have H11 := Aside0.mk R11
  have H19 := Aside0.mk R19
  have H15 := Aside0.mk R15
  have HA := Aside0.mk ha
  have HL := Aside0.mk hl
  have H0 := Aside0.mk he0
  have H1 := Aside0.mk he1
  have H2 := Aside0.mk he2
  have H3 := Aside0.mk he3
  clear CF CE R11 R19 R15 ha hl he0 he1 he2 he3
  have HB := Aside0.mk (Below.refl w.heap.size w)
  go_enter Try.func3, Try.ntmps3
  go_wp2_with (first
    | ((with_reducible refine gate_dst (N := 3) rfl ?_); refine box_event rfl (N := 3) rfl (cs := a) (t := 25) (by first | (go_simp; done) | (go_simp; rfl)) ?_; intro gs hg_ w1 hbx hb; have Kgs_1 := Aside0.mk hbx; have Ggs := Aside0.mk hg_; have Bgs := Aside0.mk (show w.heap.size ≤ gs by have := HB.out.size; omega); have HB1 := Aside0.mk (below_step HB.out hb); clear hg_ hbx hb)
    | ((with_reducible refine gate_dst (N := 4) rfl ?_); refine box_event rfl (N := 4) rfl (cs := #[.int .i64 p0, .int .i64 p1, .int .i64 p2, .int .i64 p3]) (t := 26) (by first | (go_simp; done) | (go_simp; rfl)) ?_; intro go hg_ w2 hbx hb; have Kgo_2 := Aside0.mk hbx; have Ggo := Aside0.mk hg_; have Bgo := Aside0.mk (show w.heap.size ≤ go by have := HB1.out.size; omega); have Kgs_2 := Aside0.mk (blk_below Kgs_1.out hb); have Ngsgo : gs ≠ go := (by have h1 := blk_lt Kgs_1.out; omega); have Ngogs := Ngsgo.symm; have HB2 := Aside0.mk (below_step HB1.out hb); clear hg_ hbx hb)
    | ((with_reducible refine gate_dst (N := 15) rfl ?_); refine wpList_load_row rfl 25 _ rfl gs rfl 25 _ (0, 0) _ Kgs_2.out Try.underlying25 rfl (by rw [hsz]; kernel_rfl) ?_)
    | (go_at_call 13; (with_reducible refine (HF.out _).mono ?_); rintro e w3 ⟨rfl, hb⟩; have Kgs_3 := Aside0.mk (blk_below Kgs_2.out hb); have Kgo_3 := Aside0.mk (blk_below Kgo_2.out hb); have HB3 := Aside0.mk (below_step HB2.out hb); clear hb)
    | ((with_reducible refine gate_dst (N := 7) rfl ?_); refine box_event rfl (N := 7) rfl (cs := #[.int .i64 0, .int .i64 0, .int .i64 0, .int .i64 0]) (t := 28) (by first | (go_simp; done) | (go_simp; rfl)) ?_; intro g7 hg_ w4 hbx hb; have Kg7_4 := Aside0.mk hbx; have Gg7 := Aside0.mk hg_; have Bg7 := Aside0.mk (show w.heap.size ≤ g7 by have := HB3.out.size; omega); have Kgs_4 := Aside0.mk (blk_below Kgs_3.out hb); have Ngsg7 : gs ≠ g7 := (by have h1 := blk_lt Kgs_3.out; omega); have Ng7gs := Ngsg7.symm; have Kgo_4 := Aside0.mk (blk_below Kgo_3.out hb); have Ngog7 : go ≠ g7 := (by have h1 := blk_lt Kgo_3.out; omega); have Ng7go := Ngog7.symm; have HB4 := Aside0.mk (below_step HB3.out hb); clear hg_ hbx hb)
    | ((with_reducible refine gate_dst (N := 8) rfl ?_); refine box_event rfl (N := 8) rfl (cs := #[.int .i64 0, .int .i64 0, .int .i64 0, .int .i64 0]) (t := 28) (by first | (go_simp; done) | (go_simp; rfl)) ?_; intro g8 hg_ w5 hbx hb; have Kg8_5 := Aside0.mk hbx; have Gg8 := Aside0.mk hg_; have Bg8 := Aside0.mk (show w.heap.size ≤ g8 by have := HB4.out.size; omega); have Kgs_5 := Aside0.mk (blk_below Kgs_4.out hb); have Ngsg8 : gs ≠ g8 := (by have h1 := blk_lt Kgs_4.out; omega); have Ng8gs := Ngsg8.symm; have Kgo_5 := Aside0.mk (blk_below Kgo_4.out hb); have Ngog8 : go ≠ g8 := (by have h1 := blk_lt Kgo_4.out; omega); have Ng8go := Ngog8.symm; have Kg7_5 := Aside0.mk (blk_below Kg7_4.out hb); have Ng7g8 : g7 ≠ g8 := (by have h1 := blk_lt Kg7_4.out; omega); have Ng8g7 := Ng7g8.symm; have HB5 := Aside0.mk (below_step HB4.out hb); clear hg_ hbx hb)
    | ((with_reducible refine gate_dst (N := 9) rfl ?_); refine box_event rfl (N := 9) rfl (cs := #[.int .i64 0, .int .i64 0, .int .i64 0, .int .i64 0]) (t := 28) (by first | (go_simp; done) | (go_simp; rfl)) ?_; intro g9 hg_ w6 hbx hb; have Kg9_6 := Aside0.mk hbx; have Gg9 := Aside0.mk hg_; have Bg9 := Aside0.mk (show w.heap.size ≤ g9 by have := HB5.out.size; omega); have Kgs_6 := Aside0.mk (blk_below Kgs_5.out hb); have Ngsg9 : gs ≠ g9 := (by have h1 := blk_lt Kgs_5.out; omega); have Ng9gs := Ngsg9.symm; have Kgo_6 := Aside0.mk (blk_below Kgo_5.out hb); have Ngog9 : go ≠ g9 := (by have h1 := blk_lt Kgo_5.out; omega); have Ng9go := Ngog9.symm; have Kg7_6 := Aside0.mk (blk_below Kg7_5.out hb); have Ng7g9 : g7 ≠ g9 := (by have h1 := blk_lt Kg7_5.out; omega); have Ng9g7 := Ng7g9.symm; have Kg8_6 := Aside0.mk (blk_below Kg8_5.out hb); have Ng8g9 : g8 ≠ g9 := (by have h1 := blk_lt Kg8_5.out; omega); have Ng9g8 := Ng8g9.symm; have HB6 := Aside0.mk (below_step HB5.out hb); clear hg_ hbx hb; have zg7_0 : w6.cell? ⟨g7, 0, none⟩ = some (.int .i64 0) := (blk_cell Kg7_6.out 0).trans rfl; have yg7_0 := blk_frozen Kg7_6.out 0; have zg7_1 : w6.cell? ⟨g7, 1, none⟩ = some (.int .i64 0) := (blk_cell Kg7_6.out 1).trans rfl; have yg7_1 := blk_frozen Kg7_6.out 1; have zg7_2 : w6.cell? ⟨g7, 2, none⟩ = some (.int .i64 0) := (blk_cell Kg7_6.out 2).trans rfl; have yg7_2 := blk_frozen Kg7_6.out 2; have zg7_3 : w6.cell? ⟨g7, 3, none⟩ = some (.int .i64 0) := (blk_cell Kg7_6.out 3).trans rfl; have yg7_3 := blk_frozen Kg7_6.out 3; have zg8_0 : w6.cell? ⟨g8, 0, none⟩ = some (.int .i64 0) := (blk_cell Kg8_6.out 0).trans rfl; have yg8_0 := blk_frozen Kg8_6.out 0; have zg8_1 : w6.cell? ⟨g8, 1, none⟩ = some (.int .i64 0) := (blk_cell Kg8_6.out 1).trans rfl; have yg8_1 := blk_frozen Kg8_6.out 1; have zg8_2 : w6.cell? ⟨g8, 2, none⟩ = some (.int .i64 0) := (blk_cell Kg8_6.out 2).trans rfl; have yg8_2 := blk_frozen Kg8_6.out 2; have zg8_3 : w6.cell? ⟨g8, 3, none⟩ = some (.int .i64 0) := (blk_cell Kg8_6.out 3).trans rfl; have yg8_3 := blk_frozen Kg8_6.out 3; have zg9_0 : w6.cell? ⟨g9, 0, none⟩ = some (.int .i64 0) := (blk_cell Kg9_6.out 0).trans rfl; have yg9_0 := blk_frozen Kg9_6.out 0; have zg9_1 : w6.cell? ⟨g9, 1, none⟩ = some (.int .i64 0) := (blk_cell Kg9_6.out 1).trans rfl; have yg9_1 := blk_frozen Kg9_6.out 1; have zg9_2 : w6.cell? ⟨g9, 2, none⟩ = some (.int .i64 0) := (blk_cell Kg9_6.out 2).trans rfl; have yg9_2 := blk_frozen Kg9_6.out 2; have zg9_3 : w6.cell? ⟨g9, 3, none⟩ = some (.int .i64 0) := (blk_cell Kg9_6.out 3).trans rfl; have yg9_3 := blk_frozen Kg9_6.out 3)
    | ((with_reducible refine gate_dst (N := 21) rfl ?_); have Kgs_7 : Aside0 (((((((((((((w6.setCell ⟨g7, 0, none⟩ (.int .i64 f0)).setCell ⟨g7, 1, none⟩ (.int .i64 f1)).setCell ⟨g7, 2, none⟩ (.int .i64 f2)).setCell ⟨g7, 3, none⟩ (.int .i64 f3)).setCell ⟨g8, 0, none⟩ (.int .i64 g0)).setCell ⟨g8, 1, none⟩ (.int .i64 g1)).setCell ⟨g8, 2, none⟩ (.int .i64 g2)).setCell ⟨g8, 3, none⟩ (.int .i64 g3)).setCell ⟨g9, 0, none⟩ (.int .i64 h0)).setCell ⟨g9, 1, none⟩ (.int .i64 h1)).setCell ⟨g9, 2, none⟩ (.int .i64 h2)).setCell ⟨g9, 3, none⟩ (.int .i64 h3)).heap[gs]? = some (.cells a 25 (0, 0))) := Aside0.mk (blk_far (blk_far (blk_far (blk_far (blk_far (blk_far (blk_far (blk_far (blk_far (blk_far (blk_far (blk_far (Kgs_6.out) Ngsg7 _) Ngsg7 _) Ngsg7 _) Ngsg7 _) Ngsg8 _) Ngsg8 _) Ngsg8 _) Ngsg8 _) Ngsg9 _) Ngsg9 _) Ngsg9 _) Ngsg9 _); have Kgo_7 : Aside0 (((((((((((((w6.setCell ⟨g7, 0, none⟩ (.int .i64 f0)).setCell ⟨g7, 1, none⟩ (.int .i64 f1)).setCell ⟨g7, 2, none⟩ (.int .i64 f2)).setCell ⟨g7, 3, none⟩ (.int .i64 f3)).setCell ⟨g8, 0, none⟩ (.int .i64 g0)).setCell ⟨g8, 1, none⟩ (.int .i64 g1)).setCell ⟨g8, 2, none⟩ (.int .i64 g2)).setCell ⟨g8, 3, none⟩ (.int .i64 g3)).setCell ⟨g9, 0, none⟩ (.int .i64 h0)).setCell ⟨g9, 1, none⟩ (.int .i64 h1)).setCell ⟨g9, 2, none⟩ (.int .i64 h2)).setCell ⟨g9, 3, none⟩ (.int .i64 h3)).heap[go]? = some (.cells #[.int .i64 p0, .int .i64 p1, .int .i64 p2, .int .i64 p3] 26 (0, 0))) := Aside0.mk (blk_far (blk_far (blk_far (blk_far (blk_far (blk_far (blk_far (blk_far (blk_far (blk_far (blk_far (blk_far (Kgo_6.out) Ngog7 _) Ngog7 _) Ngog7 _) Ngog7 _) Ngog8 _) Ngog8 _) Ngog8 _) Ngog8 _) Ngog9 _) Ngog9 _) Ngog9 _) Ngog9 _); have Kg7_7 : Aside0 (((((((((((((w6.setCell ⟨g7, 0, none⟩ (.int .i64 f0)).setCell ⟨g7, 1, none⟩ (.int .i64 f1)).setCell ⟨g7, 2, none⟩ (.int .i64 f2)).setCell ⟨g7, 3, none⟩ (.int .i64 f3)).setCell ⟨g8, 0, none⟩ (.int .i64 g0)).setCell ⟨g8, 1, none⟩ (.int .i64 g1)).setCell ⟨g8, 2, none⟩ (.int .i64 g2)).setCell ⟨g8, 3, none⟩ (.int .i64 g3)).setCell ⟨g9, 0, none⟩ (.int .i64 h0)).setCell ⟨g9, 1, none⟩ (.int .i64 h1)).setCell ⟨g9, 2, none⟩ (.int .i64 h2)).setCell ⟨g9, 3, none⟩ (.int .i64 h3)).heap[g7]? = some (.cells #[.int .i64 f0, .int .i64 f1, .int .i64 f2, .int .i64 f3] 28 (0, 0))) := Aside0.mk (blk_far (blk_far (blk_far (blk_far (blk_far (blk_far (blk_far (blk_far (blk_put (blk_put (blk_put (blk_put (Kg7_6.out) 0 (.int .i64 f0) rfl) 1 (.int .i64 f1) rfl) 2 (.int .i64 f2) rfl) 3 (.int .i64 f3) rfl) Ng7g8 _) Ng7g8 _) Ng7g8 _) Ng7g8 _) Ng7g9 _) Ng7g9 _) Ng7g9 _) Ng7g9 _); have Kg8_7 : Aside0 (((((((((((((w6.setCell ⟨g7, 0, none⟩ (.int .i64 f0)).setCell ⟨g7, 1, none⟩ (.int .i64 f1)).setCell ⟨g7, 2, none⟩ (.int .i64 f2)).setCell ⟨g7, 3, none⟩ (.int .i64 f3)).setCell ⟨g8, 0, none⟩ (.int .i64 g0)).setCell ⟨g8, 1, none⟩ (.int .i64 g1)).setCell ⟨g8, 2, none⟩ (.int .i64 g2)).setCell ⟨g8, 3, none⟩ (.int .i64 g3)).setCell ⟨g9, 0, none⟩ (.int .i64 h0)).setCell ⟨g9, 1, none⟩ (.int .i64 h1)).setCell ⟨g9, 2, none⟩ (.int .i64 h2)).setCell ⟨g9, 3, none⟩ (.int .i64 h3)).heap[g8]? = some (.cells #[.int .i64 g0, .int .i64 g1, .int .i64 g2, .int .i64 g3] 28 (0, 0))) := Aside0.mk (blk_far (blk_far (blk_far (blk_far (blk_put (blk_put (blk_put (blk_put (blk_far (blk_far (blk_far (blk_far (Kg8_6.out) Ng8g7 _) Ng8g7 _) Ng8g7 _) Ng8g7 _) 0 (.int .i64 g0) rfl) 1 (.int .i64 g1) rfl) 2 (.int .i64 g2) rfl) 3 (.int .i64 g3) rfl) Ng8g9 _) Ng8g9 _) Ng8g9 _) Ng8g9 _); have Kg9_7 : Aside0 (((((((((((((w6.setCell ⟨g7, 0, none⟩ (.int .i64 f0)).setCell ⟨g7, 1, none⟩ (.int .i64 f1)).setCell ⟨g7, 2, none⟩ (.int .i64 f2)).setCell ⟨g7, 3, none⟩ (.int .i64 f3)).setCell ⟨g8, 0, none⟩ (.int .i64 g0)).setCell ⟨g8, 1, none⟩ (.int .i64 g1)).setCell ⟨g8, 2, none⟩ (.int .i64 g2)).setCell ⟨g8, 3, none⟩ (.int .i64 g3)).setCell ⟨g9, 0, none⟩ (.int .i64 h0)).setCell ⟨g9, 1, none⟩ (.int .i64 h1)).setCell ⟨g9, 2, none⟩ (.int .i64 h2)).setCell ⟨g9, 3, none⟩ (.int .i64 h3)).heap[g9]? = some (.cells #[.int .i64 h0, .int .i64 h1, .int .i64 h2, .int .i64 h3] 28 (0, 0))) := Aside0.mk (blk_put (blk_put (blk_put (blk_put (blk_far (blk_far (blk_far (blk_far (blk_far (blk_far (blk_far (blk_far (Kg9_6.out) Ng9g7 _) Ng9g7 _) Ng9g7 _) Ng9g7 _) Ng9g8 _) Ng9g8 _) Ng9g8 _) Ng9g8 _) 0 (.int .i64 h0) rfl) 1 (.int .i64 h1) rfl) 2 (.int .i64 h2) rfl) 3 (.int .i64 h3) rfl); have HB7 : Aside0 (Below w.heap.size w ((((((((((((w6.setCell ⟨g7, 0, none⟩ (.int .i64 f0)).setCell ⟨g7, 1, none⟩ (.int .i64 f1)).setCell ⟨g7, 2, none⟩ (.int .i64 f2)).setCell ⟨g7, 3, none⟩ (.int .i64 f3)).setCell ⟨g8, 0, none⟩ (.int .i64 g0)).setCell ⟨g8, 1, none⟩ (.int .i64 g1)).setCell ⟨g8, 2, none⟩ (.int .i64 g2)).setCell ⟨g8, 3, none⟩ (.int .i64 g3)).setCell ⟨g9, 0, none⟩ (.int .i64 h0)).setCell ⟨g9, 1, none⟩ (.int .i64 h1)).setCell ⟨g9, 2, none⟩ (.int .i64 h2)).setCell ⟨g9, 3, none⟩ (.int .i64 h3))) := Aside0.mk (((((((((((((HB6.out).setCell Bg7.out _).setCell Bg7.out _).setCell Bg7.out _).setCell Bg7.out _).setCell Bg8.out _).setCell Bg8.out _).setCell Bg8.out _).setCell Bg8.out _).setCell Bg9.out _).setCell Bg9.out _).setCell Bg9.out _).setCell Bg9.out _); clear zg7_0 yg7_0 zg7_1 yg7_1 zg7_2 yg7_2 zg7_3 yg7_3 zg8_0 yg8_0 zg8_1 yg8_1 zg8_2 yg8_2 zg8_3 yg8_3 zg9_0 yg9_0 zg9_1 yg9_1 zg9_2 yg9_2 zg9_3 yg9_3; generalize ((((((((((((w6.setCell ⟨g7, 0, none⟩ (.int .i64 f0)).setCell ⟨g7, 1, none⟩ (.int .i64 f1)).setCell ⟨g7, 2, none⟩ (.int .i64 f2)).setCell ⟨g7, 3, none⟩ (.int .i64 f3)).setCell ⟨g8, 0, none⟩ (.int .i64 g0)).setCell ⟨g8, 1, none⟩ (.int .i64 g1)).setCell ⟨g8, 2, none⟩ (.int .i64 g2)).setCell ⟨g8, 3, none⟩ (.int .i64 g3)).setCell ⟨g9, 0, none⟩ (.int .i64 h0)).setCell ⟨g9, 1, none⟩ (.int .i64 h1)).setCell ⟨g9, 2, none⟩ (.int .i64 h2)).setCell ⟨g9, 3, none⟩ (.int .i64 h3)) = w7 at Kgs_7 Kgo_7 Kg7_7 Kg8_7 Kg9_7 HB7 ⊢; refine wpList_load_row rfl 25 _ rfl gs rfl 25 _ (0, 0) _ Kgs_7.out Try.underlying25 rfl (by rw [hsz]; kernel_rfl) ?_)
    | ((with_reducible refine gate_dst (N := 22) rfl ?_); refine wpList_load_row rfl 26 _ rfl go rfl 26 _ (0, 0) _ Kgo_7.out Try.underlying26 rfl (by kernel_rfl) ?_)
    | (go_at_call 14; (with_reducible refine (HE.out _).mono ?_); rintro e w8 ⟨rfl, hb⟩; have Kgs_8 := Aside0.mk (blk_below Kgs_7.out hb); have Kgo_8 := Aside0.mk (blk_below Kgo_7.out hb); have Kg7_8 := Aside0.mk (blk_below Kg7_7.out hb); have Kg8_8 := Aside0.mk (blk_below Kg8_7.out hb); have Kg9_8 := Aside0.mk (blk_below Kg9_7.out hb); have HB8 := Aside0.mk (below_step HB7.out hb); clear hb)
    | ((with_reducible refine gate_dst (N := 10) rfl ?_); refine box_event rfl (N := 10) rfl (cs := #[.int .i64 0, .int .i64 0, .int .i64 0, .int .i64 0]) (t := 28) (by first | (go_simp; done) | (go_simp; rfl)) ?_; intro g10 hg_ w9 hbx hb; have Kg10_9 := Aside0.mk hbx; have Gg10 := Aside0.mk hg_; have Bg10 := Aside0.mk (show w.heap.size ≤ g10 by have := HB8.out.size; omega); have Kgs_9 := Aside0.mk (blk_below Kgs_8.out hb); have Ngsg10 : gs ≠ g10 := (by have h1 := blk_lt Kgs_8.out; omega); have Ng10gs := Ngsg10.symm; have Kgo_9 := Aside0.mk (blk_below Kgo_8.out hb); have Ngog10 : go ≠ g10 := (by have h1 := blk_lt Kgo_8.out; omega); have Ng10go := Ngog10.symm; have Kg7_9 := Aside0.mk (blk_below Kg7_8.out hb); have Ng7g10 : g7 ≠ g10 := (by have h1 := blk_lt Kg7_8.out; omega); have Ng10g7 := Ng7g10.symm; have Kg8_9 := Aside0.mk (blk_below Kg8_8.out hb); have Ng8g10 : g8 ≠ g10 := (by have h1 := blk_lt Kg8_8.out; omega); have Ng10g8 := Ng8g10.symm; have Kg9_9 := Aside0.mk (blk_below Kg9_8.out hb); have Ng9g10 : g9 ≠ g10 := (by have h1 := blk_lt Kg9_8.out; omega); have Ng10g9 := Ng9g10.symm; have HB9 := Aside0.mk (below_step HB8.out hb); clear hg_ hbx hb; have zg10_0 : w9.cell? ⟨g10, 0, none⟩ = some (.int .i64 0) := (blk_cell Kg10_9.out 0).trans rfl; have yg10_0 := blk_frozen Kg10_9.out 0; have zg10_1 : w9.cell? ⟨g10, 1, none⟩ = some (.int .i64 0) := (blk_cell Kg10_9.out 1).trans rfl; have yg10_1 := blk_frozen Kg10_9.out 1; have zg10_2 : w9.cell? ⟨g10, 2, none⟩ = some (.int .i64 0) := (blk_cell Kg10_9.out 2).trans rfl; have yg10_2 := blk_frozen Kg10_9.out 2; have zg10_3 : w9.cell? ⟨g10, 3, none⟩ = some (.int .i64 0) := (blk_cell Kg10_9.out 3).trans rfl; have yg10_3 := blk_frozen Kg10_9.out 3)
    | ((with_reducible refine gate_dst (N := 11) rfl ?_); have Kgs_10 : Aside0 (((((w9.setCell ⟨g10, 0, none⟩ (.int .i64 e0)).setCell ⟨g10, 1, none⟩ (.int .i64 e1)).setCell ⟨g10, 2, none⟩ (.int .i64 e2)).setCell ⟨g10, 3, none⟩ (.int .i64 e3)).heap[gs]? = some (.cells a 25 (0, 0))) := Aside0.mk (blk_far (blk_far (blk_far (blk_far (Kgs_9.out) Ngsg10 _) Ngsg10 _) Ngsg10 _) Ngsg10 _); have Kgo_10 : Aside0 (((((w9.setCell ⟨g10, 0, none⟩ (.int .i64 e0)).setCell ⟨g10, 1, none⟩ (.int .i64 e1)).setCell ⟨g10, 2, none⟩ (.int .i64 e2)).setCell ⟨g10, 3, none⟩ (.int .i64 e3)).heap[go]? = some (.cells #[.int .i64 p0, .int .i64 p1, .int .i64 p2, .int .i64 p3] 26 (0, 0))) := Aside0.mk (blk_far (blk_far (blk_far (blk_far (Kgo_9.out) Ngog10 _) Ngog10 _) Ngog10 _) Ngog10 _); have Kg7_10 : Aside0 (((((w9.setCell ⟨g10, 0, none⟩ (.int .i64 e0)).setCell ⟨g10, 1, none⟩ (.int .i64 e1)).setCell ⟨g10, 2, none⟩ (.int .i64 e2)).setCell ⟨g10, 3, none⟩ (.int .i64 e3)).heap[g7]? = some (.cells #[.int .i64 f0, .int .i64 f1, .int .i64 f2, .int .i64 f3] 28 (0, 0))) := Aside0.mk (blk_far (blk_far (blk_far (blk_far (Kg7_9.out) Ng7g10 _) Ng7g10 _) Ng7g10 _) Ng7g10 _); have Kg8_10 : Aside0 (((((w9.setCell ⟨g10, 0, none⟩ (.int .i64 e0)).setCell ⟨g10, 1, none⟩ (.int .i64 e1)).setCell ⟨g10, 2, none⟩ (.int .i64 e2)).setCell ⟨g10, 3, none⟩ (.int .i64 e3)).heap[g8]? = some (.cells #[.int .i64 g0, .int .i64 g1, .int .i64 g2, .int .i64 g3] 28 (0, 0))) := Aside0.mk (blk_far (blk_far (blk_far (blk_far (Kg8_9.out) Ng8g10 _) Ng8g10 _) Ng8g10 _) Ng8g10 _); have Kg9_10 : Aside0 (((((w9.setCell ⟨g10, 0, none⟩ (.int .i64 e0)).setCell ⟨g10, 1, none⟩ (.int .i64 e1)).setCell ⟨g10, 2, none⟩ (.int .i64 e2)).setCell ⟨g10, 3, none⟩ (.int .i64 e3)).heap[g9]? = some (.cells #[.int .i64 h0, .int .i64 h1, .int .i64 h2, .int .i64 h3] 28 (0, 0))) := Aside0.mk (blk_far (blk_far (blk_far (blk_far (Kg9_9.out) Ng9g10 _) Ng9g10 _) Ng9g10 _) Ng9g10 _); have Kg10_10 : Aside0 (((((w9.setCell ⟨g10, 0, none⟩ (.int .i64 e0)).setCell ⟨g10, 1, none⟩ (.int .i64 e1)).setCell ⟨g10, 2, none⟩ (.int .i64 e2)).setCell ⟨g10, 3, none⟩ (.int .i64 e3)).heap[g10]? = some (.cells #[.int .i64 e0, .int .i64 e1, .int .i64 e2, .int .i64 e3] 28 (0, 0))) := Aside0.mk (blk_put (blk_put (blk_put (blk_put (Kg10_9.out) 0 (.int .i64 e0) rfl) 1 (.int .i64 e1) rfl) 2 (.int .i64 e2) rfl) 3 (.int .i64 e3) rfl); have HB10 : Aside0 (Below w.heap.size w ((((w9.setCell ⟨g10, 0, none⟩ (.int .i64 e0)).setCell ⟨g10, 1, none⟩ (.int .i64 e1)).setCell ⟨g10, 2, none⟩ (.int .i64 e2)).setCell ⟨g10, 3, none⟩ (.int .i64 e3))) := Aside0.mk (((((HB9.out).setCell Bg10.out _).setCell Bg10.out _).setCell Bg10.out _).setCell Bg10.out _); clear zg10_0 yg10_0 zg10_1 yg10_1 zg10_2 yg10_2 zg10_3 yg10_3; generalize ((((w9.setCell ⟨g10, 0, none⟩ (.int .i64 e0)).setCell ⟨g10, 1, none⟩ (.int .i64 e1)).setCell ⟨g10, 2, none⟩ (.int .i64 e2)).setCell ⟨g10, 3, none⟩ (.int .i64 e3)) = w10 at Kgs_10 Kgo_10 Kg7_10 Kg8_10 Kg9_10 Kg10_10 HB10 ⊢; refine box_event rfl (N := 11) rfl (cs := #[.int .i64 0, .int .i64 0, .int .i64 0, .int .i64 0]) (t := 26) (by first | (go_simp; done) | (go_simp; rfl)) ?_; intro gn hg_ w11 hbx hb; have Kgn_11 := Aside0.mk hbx; have Ggn := Aside0.mk hg_; have Bgn := Aside0.mk (show w.heap.size ≤ gn by have := HB10.out.size; omega); have Kgs_11 := Aside0.mk (blk_below Kgs_10.out hb); have Ngsgn : gs ≠ gn := (by have h1 := blk_lt Kgs_10.out; omega); have Ngngs := Ngsgn.symm; have Kgo_11 := Aside0.mk (blk_below Kgo_10.out hb); have Ngogn : go ≠ gn := (by have h1 := blk_lt Kgo_10.out; omega); have Ngngo := Ngogn.symm; have Kg7_11 := Aside0.mk (blk_below Kg7_10.out hb); have Ng7gn : g7 ≠ gn := (by have h1 := blk_lt Kg7_10.out; omega); have Ngng7 := Ng7gn.symm; have Kg8_11 := Aside0.mk (blk_below Kg8_10.out hb); have Ng8gn : g8 ≠ gn := (by have h1 := blk_lt Kg8_10.out; omega); have Ngng8 := Ng8gn.symm; have Kg9_11 := Aside0.mk (blk_below Kg9_10.out hb); have Ng9gn : g9 ≠ gn := (by have h1 := blk_lt Kg9_10.out; omega); have Ngng9 := Ng9gn.symm; have Kg10_11 := Aside0.mk (blk_below Kg10_10.out hb); have Ng10gn : g10 ≠ gn := (by have h1 := blk_lt Kg10_10.out; omega); have Ngng10 := Ng10gn.symm; have HB11 := Aside0.mk (below_step HB10.out hb); clear hg_ hbx hb)
    | ((with_reducible refine gate_dst (N := 25) rfl ?_); refine wpList_load_row rfl 26 _ rfl go rfl 26 _ (0, 0) _ Kgo_11.out Try.underlying26 rfl (by kernel_rfl) ?_))
  go_loopw [26] (fun i wr => ∃ k : Nat, k ≤ 4 ∧ i = .int .i64 k ∧ Aside0 (wr.heap[gn]? = some (.cells (st4 k e0 e1 e2 e3) 26 (0, 0))) ∧ Aside0 (wr.heap[gs]? = some (.cells a 25 (0, 0))) ∧ Aside0 (wr.heap[g7]? = some (.cells #[.int .i64 f0, .int .i64 f1, .int .i64 f2, .int .i64 f3] 28 (0, 0))) ∧ Aside0 (wr.heap[g8]? = some (.cells #[.int .i64 g0, .int .i64 g1, .int .i64 g2, .int .i64 g3] 28 (0, 0))) ∧ Aside0 (wr.heap[g9]? = some (.cells #[.int .i64 h0, .int .i64 h1, .int .i64 h2, .int .i64 h3] 28 (0, 0))) ∧ Aside0 (wr.heap[g10]? = some (.cells #[.int .i64 e0, .int .i64 e1, .int .i64 e2, .int .i64 e3] 28 (0, 0))) ∧ Aside0 (Below w.heap.size w wr)) (fun i _ => 4 - (intOf i).toNat)
  case atStart => exact ⟨0, by omega, rfl, Kgn_11, Kgs_11, Kg7_11, Kg8_11, Kg9_11, Kg10_11, HB11⟩
  case round =>
    obtain ⟨k, hk, rfl, HNr, HSr, K7r, K8r, K9r, K10r, HBr⟩ := hrel
    rcases (by omega : k = 0 ∨ k = 1 ∨ k = 2 ∨ k = 3 ∨ k = 4) with rfl | rfl | rfl | rfl | rfl
    · by_cases c1 : 0 ≤ p0
      · have c1b : decide (0 ≤ p0) = true := decide_eq_true c1
        by_cases c2 : p0 < 59
        · have c2b : decide (p0 < 59) = true := decide_eq_true c2
          have hv0 := sty_at HSr.out HA.out (p0.toNat * 2) (by have := HL.out; omega)
          have hv1 := sty_at HSr.out HA.out (p0.toNat * 2 + 1) (by have := HL.out; omega)
          have HC := Aside0.mk (fun w => clerestoryref3_Of.calls (xs.getD (p0.toNat * 2) 0) (xs.getD (p0.toNat * 2 + 1) 0) room _ _ w (of_b _ _ _))
          have HE : Aside0 ((ofv (xs.getD (p0.toNat * 2) 0) (xs.getD (p0.toNat * 2 + 1) 0) room).1 = e0) := ⟨by rw [← H0.out]; unfold edg1 len1; rw [if_pos c1, if_pos c2]⟩
          rw [HE.out] at HC
          have q1 := eq_true c1
          have q2 := eq_true c2
          clear c1 c2
          have hn0 := (blk_cell HNr.out 0).trans rfl
          have hnf := blk_frozen HNr.out 0
          go_wp2_with (first | ((with_reducible refine gate_dst (N := 29) rfl ?_); (refine Kd.event_run rfl (v := .int .i64 p0) (w1 := wr) ?hr ?_; (case hr => first | rfl | (go_simp; done) | (go_simp; rfl)))) | (go_at_call 15; (refine (HC.out _).mono ?_); rintro e w5 ⟨rfl, hb⟩; have HN5 := Aside0.mk (blk_below HNr.out hb); have HS5 := Aside0.mk (blk_below HSr.out hb); have K75 := Aside0.mk (blk_below K7r.out hb); have K85 := Aside0.mk (blk_below K8r.out hb); have K95 := Aside0.mk (blk_below K9r.out hb); have K105 := Aside0.mk (blk_below K10r.out hb); have HB5 := Aside0.mk (below_step HBr.out hb); clear hb; have hn5 := (blk_cell HN5.out 0).trans rfl; have hf5 := blk_frozen HN5.out 0))
          go_roundw
          case rel => exact ⟨1, by omega, by go_num, ⟨blk_put HN5.out 0 _ (by simp [st4])⟩, ⟨blk_far HS5.out Ngsgn _⟩, ⟨blk_far K75.out Ng7gn _⟩, ⟨blk_far K85.out Ng8gn _⟩, ⟨blk_far K95.out Ng9gn _⟩, ⟨blk_far K105.out Ng10gn _⟩, ⟨HB5.out.setCell Bgn.out _⟩⟩
          case measure => simp [intOf]
        · have c2b : decide (p0 < 59) = false := decide_eq_false c2
          have HE : Aside0 (e0 = 0) := ⟨by rw [← H0.out]; unfold edg1; rw [if_pos c1, if_neg c2]⟩
          clear c1 c2
          go_wp2_with ((with_reducible refine gate_dst (N := 29) rfl ?_); (refine Kd.event_run rfl (v := .int .i64 p0) (w1 := wr) ?hr ?_; (case hr => first | rfl | (go_simp; done) | (go_simp; rfl))))
          go_roundw
          case rel => exact ⟨1, by omega, by go_num, ⟨by have h := HNr.out; have h2 := HE.out; subst h2; simpa [st4] using h⟩, HSr, K7r, K8r, K9r, K10r, HBr⟩
          case measure => simp [intOf]
      · have c1b : decide (0 ≤ p0) = false := decide_eq_false c1
        have HE : Aside0 (e0 = 0) := ⟨by rw [← H0.out]; unfold edg1; rw [if_neg c1]⟩
        clear c1
        go_wp2_with ((with_reducible refine gate_dst (N := 29) rfl ?_); (refine Kd.event_run rfl (v := .int .i64 p0) (w1 := wr) ?hr ?_; (case hr => first | rfl | (go_simp; done) | (go_simp; rfl))))
        go_roundw
        case rel => exact ⟨1, by omega, by go_num, ⟨by have h := HNr.out; have h2 := HE.out; subst h2; simpa [st4] using h⟩, HSr, K7r, K8r, K9r, K10r, HBr⟩
        case measure => simp [intOf]
    · by_cases c1 : 0 ≤ p1
      · have c1b : decide (0 ≤ p1) = true := decide_eq_true c1
        by_cases c2 : p1 < 59
        · have c2b : decide (p1 < 59) = true := decide_eq_true c2
          have hv0 := sty_at HSr.out HA.out (p1.toNat * 2) (by have := HL.out; omega)
          have hv1 := sty_at HSr.out HA.out (p1.toNat * 2 + 1) (by have := HL.out; omega)
          have HC := Aside0.mk (fun w => clerestoryref3_Of.calls (xs.getD (p1.toNat * 2) 0) (xs.getD (p1.toNat * 2 + 1) 0) room _ _ w (of_b _ _ _))
          have HE : Aside0 ((ofv (xs.getD (p1.toNat * 2) 0) (xs.getD (p1.toNat * 2 + 1) 0) room).1 = e1) := ⟨by rw [← H1.out]; unfold edg1 len1; rw [if_pos c1, if_pos c2]⟩
          rw [HE.out] at HC
          have q1 := eq_true c1
          have q2 := eq_true c2
          clear c1 c2
          have hn0 := (blk_cell HNr.out 1).trans rfl
          have hnf := blk_frozen HNr.out 1
          go_wp2_with (first | ((with_reducible refine gate_dst (N := 29) rfl ?_); (refine Kd.event_run rfl (v := .int .i64 p1) (w1 := wr) ?hr ?_; (case hr => first | rfl | (go_simp; done) | (go_simp; rfl)))) | (go_at_call 15; (refine (HC.out _).mono ?_); rintro e w5 ⟨rfl, hb⟩; have HN5 := Aside0.mk (blk_below HNr.out hb); have HS5 := Aside0.mk (blk_below HSr.out hb); have K75 := Aside0.mk (blk_below K7r.out hb); have K85 := Aside0.mk (blk_below K8r.out hb); have K95 := Aside0.mk (blk_below K9r.out hb); have K105 := Aside0.mk (blk_below K10r.out hb); have HB5 := Aside0.mk (below_step HBr.out hb); clear hb; have hn5 := (blk_cell HN5.out 1).trans rfl; have hf5 := blk_frozen HN5.out 1))
          go_roundw
          case rel => exact ⟨2, by omega, by go_num, ⟨blk_put HN5.out 1 _ (by simp [st4])⟩, ⟨blk_far HS5.out Ngsgn _⟩, ⟨blk_far K75.out Ng7gn _⟩, ⟨blk_far K85.out Ng8gn _⟩, ⟨blk_far K95.out Ng9gn _⟩, ⟨blk_far K105.out Ng10gn _⟩, ⟨HB5.out.setCell Bgn.out _⟩⟩
          case measure => simp [intOf]
        · have c2b : decide (p1 < 59) = false := decide_eq_false c2
          have HE : Aside0 (e1 = 0) := ⟨by rw [← H1.out]; unfold edg1; rw [if_pos c1, if_neg c2]⟩
          clear c1 c2
          go_wp2_with ((with_reducible refine gate_dst (N := 29) rfl ?_); (refine Kd.event_run rfl (v := .int .i64 p1) (w1 := wr) ?hr ?_; (case hr => first | rfl | (go_simp; done) | (go_simp; rfl))))
          go_roundw
          case rel => exact ⟨2, by omega, by go_num, ⟨by have h := HNr.out; have h2 := HE.out; subst h2; simpa [st4] using h⟩, HSr, K7r, K8r, K9r, K10r, HBr⟩
          case measure => simp [intOf]
      · have c1b : decide (0 ≤ p1) = false := decide_eq_false c1
        have HE : Aside0 (e1 = 0) := ⟨by rw [← H1.out]; unfold edg1; rw [if_neg c1]⟩
        clear c1
        go_wp2_with ((with_reducible refine gate_dst (N := 29) rfl ?_); (refine Kd.event_run rfl (v := .int .i64 p1) (w1 := wr) ?hr ?_; (case hr => first | rfl | (go_simp; done) | (go_simp; rfl))))
        go_roundw
        case rel => exact ⟨2, by omega, by go_num, ⟨by have h := HNr.out; have h2 := HE.out; subst h2; simpa [st4] using h⟩, HSr, K7r, K8r, K9r, K10r, HBr⟩
        case measure => simp [intOf]
    · by_cases c1 : 0 ≤ p2
      · have c1b : decide (0 ≤ p2) = true := decide_eq_true c1
        by_cases c2 : p2 < 59
        · have c2b : decide (p2 < 59) = true := decide_eq_true c2
          have hv0 := sty_at HSr.out HA.out (p2.toNat * 2) (by have := HL.out; omega)
          have hv1 := sty_at HSr.out HA.out (p2.toNat * 2 + 1) (by have := HL.out; omega)
          have HC := Aside0.mk (fun w => clerestoryref3_Of.calls (xs.getD (p2.toNat * 2) 0) (xs.getD (p2.toNat * 2 + 1) 0) room _ _ w (of_b _ _ _))
          have HE : Aside0 ((ofv (xs.getD (p2.toNat * 2) 0) (xs.getD (p2.toNat * 2 + 1) 0) room).1 = e2) := ⟨by rw [← H2.out]; unfold edg1 len1; rw [if_pos c1, if_pos c2]⟩
          rw [HE.out] at HC
          have q1 := eq_true c1
          have q2 := eq_true c2
          clear c1 c2
          have hn0 := (blk_cell HNr.out 2).trans rfl
          have hnf := blk_frozen HNr.out 2
          go_wp2_with (first | ((with_reducible refine gate_dst (N := 29) rfl ?_); (refine Kd.event_run rfl (v := .int .i64 p2) (w1 := wr) ?hr ?_; (case hr => first | rfl | (go_simp; done) | (go_simp; rfl)))) | (go_at_call 15; (refine (HC.out _).mono ?_); rintro e w5 ⟨rfl, hb⟩; have HN5 := Aside0.mk (blk_below HNr.out hb); have HS5 := Aside0.mk (blk_below HSr.out hb); have K75 := Aside0.mk (blk_below K7r.out hb); have K85 := Aside0.mk (blk_below K8r.out hb); have K95 := Aside0.mk (blk_below K9r.out hb); have K105 := Aside0.mk (blk_below K10r.out hb); have HB5 := Aside0.mk (below_step HBr.out hb); clear hb; have hn5 := (blk_cell HN5.out 2).trans rfl; have hf5 := blk_frozen HN5.out 2))
          go_roundw
          case rel => exact ⟨3, by omega, by go_num, ⟨blk_put HN5.out 2 _ (by simp [st4])⟩, ⟨blk_far HS5.out Ngsgn _⟩, ⟨blk_far K75.out Ng7gn _⟩, ⟨blk_far K85.out Ng8gn _⟩, ⟨blk_far K95.out Ng9gn _⟩, ⟨blk_far K105.out Ng10gn _⟩, ⟨HB5.out.setCell Bgn.out _⟩⟩
          case measure => simp [intOf]
        · have c2b : decide (p2 < 59) = false := decide_eq_false c2
          have HE : Aside0 (e2 = 0) := ⟨by rw [← H2.out]; unfold edg1; rw [if_pos c1, if_neg c2]⟩
          clear c1 c2
          go_wp2_with ((with_reducible refine gate_dst (N := 29) rfl ?_); (refine Kd.event_run rfl (v := .int .i64 p2) (w1 := wr) ?hr ?_; (case hr => first | rfl | (go_simp; done) | (go_simp; rfl))))
          go_roundw
          case rel => exact ⟨3, by omega, by go_num, ⟨by have h := HNr.out; have h2 := HE.out; subst h2; simpa [st4] using h⟩, HSr, K7r, K8r, K9r, K10r, HBr⟩
          case measure => simp [intOf]
      · have c1b : decide (0 ≤ p2) = false := decide_eq_false c1
        have HE : Aside0 (e2 = 0) := ⟨by rw [← H2.out]; unfold edg1; rw [if_neg c1]⟩
        clear c1
        go_wp2_with ((with_reducible refine gate_dst (N := 29) rfl ?_); (refine Kd.event_run rfl (v := .int .i64 p2) (w1 := wr) ?hr ?_; (case hr => first | rfl | (go_simp; done) | (go_simp; rfl))))
        go_roundw
        case rel => exact ⟨3, by omega, by go_num, ⟨by have h := HNr.out; have h2 := HE.out; subst h2; simpa [st4] using h⟩, HSr, K7r, K8r, K9r, K10r, HBr⟩
        case measure => simp [intOf]
    · by_cases c1 : 0 ≤ p3
      · have c1b : decide (0 ≤ p3) = true := decide_eq_true c1
        by_cases c2 : p3 < 59
        · have c2b : decide (p3 < 59) = true := decide_eq_true c2
          have hv0 := sty_at HSr.out HA.out (p3.toNat * 2) (by have := HL.out; omega)
          have hv1 := sty_at HSr.out HA.out (p3.toNat * 2 + 1) (by have := HL.out; omega)
          have HC := Aside0.mk (fun w => clerestoryref3_Of.calls (xs.getD (p3.toNat * 2) 0) (xs.getD (p3.toNat * 2 + 1) 0) room _ _ w (of_b _ _ _))
          have HE : Aside0 ((ofv (xs.getD (p3.toNat * 2) 0) (xs.getD (p3.toNat * 2 + 1) 0) room).1 = e3) := ⟨by rw [← H3.out]; unfold edg1 len1; rw [if_pos c1, if_pos c2]⟩
          rw [HE.out] at HC
          have q1 := eq_true c1
          have q2 := eq_true c2
          clear c1 c2
          have hn0 := (blk_cell HNr.out 3).trans rfl
          have hnf := blk_frozen HNr.out 3
          go_wp2_with (first | ((with_reducible refine gate_dst (N := 29) rfl ?_); (refine Kd.event_run rfl (v := .int .i64 p3) (w1 := wr) ?hr ?_; (case hr => first | rfl | (go_simp; done) | (go_simp; rfl)))) | (go_at_call 15; (refine (HC.out _).mono ?_); rintro e w5 ⟨rfl, hb⟩; have HN5 := Aside0.mk (blk_below HNr.out hb); have HS5 := Aside0.mk (blk_below HSr.out hb); have K75 := Aside0.mk (blk_below K7r.out hb); have K85 := Aside0.mk (blk_below K8r.out hb); have K95 := Aside0.mk (blk_below K9r.out hb); have K105 := Aside0.mk (blk_below K10r.out hb); have HB5 := Aside0.mk (below_step HBr.out hb); clear hb; have hn5 := (blk_cell HN5.out 3).trans rfl; have hf5 := blk_frozen HN5.out 3))
          go_roundw
          case rel => exact ⟨4, by omega, by go_num, ⟨blk_put HN5.out 3 _ (by simp [st4])⟩, ⟨blk_far HS5.out Ngsgn _⟩, ⟨blk_far K75.out Ng7gn _⟩, ⟨blk_far K85.out Ng8gn _⟩, ⟨blk_far K95.out Ng9gn _⟩, ⟨blk_far K105.out Ng10gn _⟩, ⟨HB5.out.setCell Bgn.out _⟩⟩
          case measure => simp [intOf]
        · have c2b : decide (p3 < 59) = false := decide_eq_false c2
          have HE : Aside0 (e3 = 0) := ⟨by rw [← H3.out]; unfold edg1; rw [if_pos c1, if_neg c2]⟩
          clear c1 c2
          go_wp2_with ((with_reducible refine gate_dst (N := 29) rfl ?_); (refine Kd.event_run rfl (v := .int .i64 p3) (w1 := wr) ?hr ?_; (case hr => first | rfl | (go_simp; done) | (go_simp; rfl))))
          go_roundw
          case rel => exact ⟨4, by omega, by go_num, ⟨by have h := HNr.out; have h2 := HE.out; subst h2; simpa [st4] using h⟩, HSr, K7r, K8r, K9r, K10r, HBr⟩
          case measure => simp [intOf]
      · have c1b : decide (0 ≤ p3) = false := decide_eq_false c1
        have HE : Aside0 (e3 = 0) := ⟨by rw [← H3.out]; unfold edg1; rw [if_neg c1]⟩
        clear c1
        go_wp2_with ((with_reducible refine gate_dst (N := 29) rfl ?_); (refine Kd.event_run rfl (v := .int .i64 p3) (w1 := wr) ?hr ?_; (case hr => first | rfl | (go_simp; done) | (go_simp; rfl))))
        go_roundw
        case rel => exact ⟨4, by omega, by go_num, ⟨by have h := HNr.out; have h2 := HE.out; subst h2; simpa [st4] using h⟩, HSr, K7r, K8r, K9r, K10r, HBr⟩
        case measure => simp [intOf]
    · go_wp2
      have HNr' : Aside0 (wr.heap[gn]? = some (.cells #[.int .i64 e0, .int .i64 e1, .int .i64 e2, .int .i64 e3] 26 (0, 0))) := ⟨HNr.out.trans rfl⟩
      refine start_ (n := 36) (S := fun w' => w'.heap[gs]? = some (.cells a 25 (0, 0)) ∧ w'.heap[g7]? = some (.cells #[.int .i64 f0, .int .i64 f1, .int .i64 f2, .int .i64 f3] 28 (0, 0)) ∧ w'.heap[g8]? = some (.cells #[.int .i64 g0, .int .i64 g1, .int .i64 g2, .int .i64 g3] 28 (0, 0)) ∧ w'.heap[g9]? = some (.cells #[.int .i64 h0, .int .i64 h1, .int .i64 h2, .int .i64 h3] 28 (0, 0)) ∧ w'.heap[g10]? = some (.cells #[.int .i64 e0, .int .i64 e1, .int .i64 e2, .int .i64 e3] 28 (0, 0)) ∧ w'.heap[gn]? = some (.cells #[.int .i64 e0, .int .i64 e1, .int .i64 e2, .int .i64 e3] 26 (0, 0)) ∧ Below w.heap.size w w') (ds := []) #[false, false, false, false, false, false, false, false, false, false, false, false, false, false, false, false, false, false, false, false, false, false, false, false, false, false, false, false, false, false, false, false, false, false, false, false] (by kernel_rfl) rfl rfl ⟨HSr.out, K7r.out, K8r.out, K9r.out, K10r.out, HNr'.out, below_drew1 HBr.out⟩ (fun hHeld => ?_)
      refine one_ (i := 0) (N := some 47) #[true, false, false, false, false, false, false, false, false, false, false, false, false, false, false, false, false, false, false, false, false, false, false, false, false, false, false, false, false, false, false, false, false, false, false, false] rfl rfl (by kernel_rfl) (by decide) (fun K hK => ?_)
      refine goes_ Try.func16 (by kernel_rfl) rfl #[] (by rfl) rfl rfl (by simp only [List.map_toArray, List.map_cons, List.map_nil]) ?_
      with_reducible refine (met_yes _).mono ?_
      rintro e w3 ⟨rfl, hb⟩
      refine ⟨_, rfl, ?_⟩
      refine hK.out _ _ ⟨(blk_below hHeld.1 hb), (blk_below hHeld.2.1 hb), (blk_below hHeld.2.2.1 hb), (blk_below hHeld.2.2.2.1 hb), (blk_below hHeld.2.2.2.2.1 hb), (blk_below hHeld.2.2.2.2.2.1 hb), (below_step hHeld.2.2.2.2.2.2 hb)⟩ (fun hHeld => ?_)
      clear hK K
      refine norm_ (a' := ?_) ?_ ?_
      rotate_left
      · show Act.put _ (some 47) _ = _
        simp only [Act.put, List.setIfInBounds_toArray, List.set_cons_zero, List.set_cons_succ, i64_w, i32_w]
        rfl
      refine pure_ (i := 1) (N := some 48) (v := ?_) (a' := ?_) #[true, true, false, false, false, false, false, false, false, false, false, false, false, false, false, false, false, false, false, false, false, false, false, false, false, false, false, false, false, false, false, false, false, false, false, false] rfl rfl (by kernel_rfl) (fun _ _ _ h => h) (Or.inl ⟨by rfl, ?_⟩) ?_ ?_
      rotate_left
      · intro w'
        go_simp
        with_reducible rfl
      rotate_left
      · simp only [Act.put, List.setIfInBounds_toArray, List.set_cons_zero, List.set_cons_succ, i64_w, i32_w]
        rfl
      refine pure_ (i := 4) (N := some 51) (v := ?_) (a' := ?_) #[true, true, false, false, true, false, false, false, false, false, false, false, false, false, false, false, false, false, false, false, false, false, false, false, false, false, false, false, false, false, false, false, false, false, false, false] rfl rfl (by kernel_rfl) (fun _ _ _ h => h) (Or.inl ⟨by rfl, ?_⟩) ?_ ?_
      rotate_left
      · intro w'
        go_simp
        with_reducible rfl
      rotate_left
      · simp only [Act.put, List.setIfInBounds_toArray, List.set_cons_zero, List.set_cons_succ, i64_w, i32_w]
        rfl
      refine take_ (i := 2) (N := some 49) (v := ?_) (a' := ?_) #[true, true, true, false, true, false, false, false, false, false, false, false, false, false, false, false, false, false, false, false, false, false, false, false, false, false, false, false, false, false, false, false, false, false, false, false] rfl rfl (by kernel_rfl) (fun _ _ _ h => h) (Or.inl ⟨by rfl, ?_⟩) hHeld ?_ ?_
      rotate_left
      · rintro w' ⟨s0, s1, s2, s3, s4, s5, s6⟩
        refine load_run 28 (.tmp 7) ?_ g7 ?_ 28 _ (0, 0) _ s1 Try.underlying28 ?_ ?_
        · rfl
        · rfl
        · rfl
        · kernel_rfl
      rotate_left
      · simp only [Act.put, List.setIfInBounds_toArray, List.set_cons_zero, List.set_cons_succ, i64_w, i32_w]
        rfl
      refine take_ (i := 3) (N := some 50) (v := ?_) (a' := ?_) #[true, true, true, true, true, false, false, false, false, false, false, false, false, false, false, false, false, false, false, false, false, false, false, false, false, false, false, false, false, false, false, false, false, false, false, false] rfl rfl (by kernel_rfl) (fun _ _ _ h => h) (Or.inl ⟨by rfl, ?_⟩) hHeld ?_ ?_
      rotate_left
      · rintro w' ⟨s0, s1, s2, s3, s4, s5, s6⟩
        refine load_run 25 (.tmp 3) ?_ gs ?_ 25 _ (0, 0) _ s0 Try.underlying25 ?_ ?_
        · rfl
        · rfl
        · rfl
        · rw [hsz]; kernel_rfl
      rotate_left
      · simp only [Act.put, List.setIfInBounds_toArray, List.set_cons_zero, List.set_cons_succ, i64_w, i32_w]
        rfl
      refine one_ (i := 5) (N := some 52) #[true, true, true, true, true, true, false, false, false, false, false, false, false, false, false, false, false, false, false, false, false, false, false, false, false, false, false, false, false, false, false, false, false, false, false, false] rfl rfl (by kernel_rfl) (by decide) (fun K hK => ?_)
      refine goes_ Try.func17 (by kernel_rfl) rfl #[.agg a, .int .i64 11, .int .i64 room, .bool false] (by rfl) rfl rfl (by simp only [List.map_toArray, List.map_cons, List.map_nil]; rfl) ?_
      with_reducible refine (H11.out _).mono ?_
      rintro e w3 ⟨rfl, hb⟩
      refine ⟨_, rfl, ?_⟩
      refine hK.out _ _ ⟨(blk_below hHeld.1 hb), (blk_below hHeld.2.1 hb), (blk_below hHeld.2.2.1 hb), (blk_below hHeld.2.2.2.1 hb), (blk_below hHeld.2.2.2.2.1 hb), (blk_below hHeld.2.2.2.2.2.1 hb), (below_step hHeld.2.2.2.2.2.2 hb)⟩ (fun hHeld => ?_)
      clear hK K
      refine norm_ (a' := ?_) ?_ ?_
      rotate_left
      · show Act.put _ (some 52) _ = _
        simp only [Act.put, List.setIfInBounds_toArray, List.set_cons_zero, List.set_cons_succ, i64_w, i32_w]
        rfl
      refine pure_ (i := 6) (N := some 53) (v := ?_) (a' := ?_) #[true, true, true, true, true, true, true, false, false, false, false, false, false, false, false, false, false, false, false, false, false, false, false, false, false, false, false, false, false, false, false, false, false, false, false, false] rfl rfl (by kernel_rfl) (fun _ _ _ h => h) (Or.inl ⟨by rfl, ?_⟩) ?_ ?_
      rotate_left
      · intro w'
        go_simp
        with_reducible rfl
      rotate_left
      · simp only [Act.put, List.setIfInBounds_toArray, List.set_cons_zero, List.set_cons_succ, i64_w, i32_w]
        rfl
      refine pure_ (i := 7) (N := some 54) (v := ?_) (a' := ?_) #[true, true, true, true, true, true, true, true, false, false, false, false, false, false, false, false, false, false, false, false, false, false, false, false, false, false, false, false, false, false, false, false, false, false, false, false] rfl rfl (by kernel_rfl) (fun _ _ _ h => h) (Or.inl ⟨by rfl, ?_⟩) ?_ ?_
      rotate_left
      · intro w'
        go_simp
        with_reducible rfl
      rotate_left
      · simp only [Act.put, List.setIfInBounds_toArray, List.set_cons_zero, List.set_cons_succ, i64_w, i32_w]
        rfl
      refine pure_ (i := 8) (N := some 55) (v := ?_) (a' := ?_) #[true, true, true, true, true, true, true, true, true, false, false, false, false, false, false, false, false, false, false, false, false, false, false, false, false, false, false, false, false, false, false, false, false, false, false, false] rfl rfl (by kernel_rfl) (fun _ _ _ h => h) (Or.inl ⟨by rfl, ?_⟩) ?_ ?_
      rotate_left
      · intro w'
        go_simp
        with_reducible rfl
      rotate_left
      · simp only [Act.put, List.setIfInBounds_toArray, List.set_cons_zero, List.set_cons_succ, i64_w, i32_w]
        rfl
      refine pure_ (i := 11) (N := some 58) (v := ?_) (a' := ?_) #[true, true, true, true, true, true, true, true, true, false, false, true, false, false, false, false, false, false, false, false, false, false, false, false, false, false, false, false, false, false, false, false, false, false, false, false] rfl rfl (by kernel_rfl) (fun _ _ _ h => h) (Or.inl ⟨by rfl, ?_⟩) ?_ ?_
      rotate_left
      · intro w'
        go_simp
        with_reducible rfl
      rotate_left
      · simp only [Act.put, List.setIfInBounds_toArray, List.set_cons_zero, List.set_cons_succ, i64_w, i32_w]
        rfl
      refine take_ (i := 9) (N := some 56) (v := ?_) (a' := ?_) #[true, true, true, true, true, true, true, true, true, true, false, true, false, false, false, false, false, false, false, false, false, false, false, false, false, false, false, false, false, false, false, false, false, false, false, false] rfl rfl (by kernel_rfl) (fun _ _ _ h => h) (Or.inl ⟨by rfl, ?_⟩) hHeld ?_ ?_
      rotate_left
      · rintro w' ⟨s0, s1, s2, s3, s4, s5, s6⟩
        refine load_run 28 (.tmp 8) ?_ g8 ?_ 28 _ (0, 0) _ s2 Try.underlying28 ?_ ?_
        · rfl
        · rfl
        · rfl
        · kernel_rfl
      rotate_left
      · simp only [Act.put, List.setIfInBounds_toArray, List.set_cons_zero, List.set_cons_succ, i64_w, i32_w]
        rfl
      refine take_ (i := 10) (N := some 57) (v := ?_) (a' := ?_) #[true, true, true, true, true, true, true, true, true, true, true, true, false, false, false, false, false, false, false, false, false, false, false, false, false, false, false, false, false, false, false, false, false, false, false, false] rfl rfl (by kernel_rfl) (fun _ _ _ h => h) (Or.inl ⟨by rfl, ?_⟩) hHeld ?_ ?_
      rotate_left
      · rintro w' ⟨s0, s1, s2, s3, s4, s5, s6⟩
        refine load_run 25 (.tmp 3) ?_ gs ?_ 25 _ (0, 0) _ s0 Try.underlying25 ?_ ?_
        · rfl
        · rfl
        · rfl
        · rw [hsz]; kernel_rfl
      rotate_left
      · simp only [Act.put, List.setIfInBounds_toArray, List.set_cons_zero, List.set_cons_succ, i64_w, i32_w]
        rfl
      refine one_ (i := 12) (N := some 59) #[true, true, true, true, true, true, true, true, true, true, true, true, true, false, false, false, false, false, false, false, false, false, false, false, false, false, false, false, false, false, false, false, false, false, false, false] rfl rfl (by kernel_rfl) (by decide) (fun K hK => ?_)
      refine goes_ Try.func17 (by kernel_rfl) rfl #[.agg a, .int .i64 19, .int .i64 room, .bool true] (by rfl) rfl rfl (by simp only [List.map_toArray, List.map_cons, List.map_nil]; rfl) ?_
      with_reducible refine (H19.out _).mono ?_
      rintro e w3 ⟨rfl, hb⟩
      refine ⟨_, rfl, ?_⟩
      refine hK.out _ _ ⟨(blk_below hHeld.1 hb), (blk_below hHeld.2.1 hb), (blk_below hHeld.2.2.1 hb), (blk_below hHeld.2.2.2.1 hb), (blk_below hHeld.2.2.2.2.1 hb), (blk_below hHeld.2.2.2.2.2.1 hb), (below_step hHeld.2.2.2.2.2.2 hb)⟩ (fun hHeld => ?_)
      clear hK K
      refine norm_ (a' := ?_) ?_ ?_
      rotate_left
      · show Act.put _ (some 59) _ = _
        simp only [Act.put, List.setIfInBounds_toArray, List.set_cons_zero, List.set_cons_succ, i64_w, i32_w]
        rfl
      refine pure_ (i := 13) (N := some 60) (v := ?_) (a' := ?_) #[true, true, true, true, true, true, true, true, true, true, true, true, true, true, false, false, false, false, false, false, false, false, false, false, false, false, false, false, false, false, false, false, false, false, false, false] rfl rfl (by kernel_rfl) (fun _ _ _ h => h) (Or.inl ⟨by rfl, ?_⟩) ?_ ?_
      rotate_left
      · intro w'
        go_simp
        with_reducible rfl
      rotate_left
      · simp only [Act.put, List.setIfInBounds_toArray, List.set_cons_zero, List.set_cons_succ, i64_w, i32_w]
        rfl
      refine pure_ (i := 14) (N := some 61) (v := ?_) (a' := ?_) #[true, true, true, true, true, true, true, true, true, true, true, true, true, true, true, false, false, false, false, false, false, false, false, false, false, false, false, false, false, false, false, false, false, false, false, false] rfl rfl (by kernel_rfl) (fun _ _ _ h => h) (Or.inl ⟨by rfl, ?_⟩) ?_ ?_
      rotate_left
      · intro w'
        go_simp
        with_reducible rfl
      rotate_left
      · simp only [Act.put, List.setIfInBounds_toArray, List.set_cons_zero, List.set_cons_succ, i64_w, i32_w]
        rfl
      refine pure_ (i := 15) (N := some 62) (v := ?_) (a' := ?_) #[true, true, true, true, true, true, true, true, true, true, true, true, true, true, true, true, false, false, false, false, false, false, false, false, false, false, false, false, false, false, false, false, false, false, false, false] rfl rfl (by kernel_rfl) (fun _ _ _ h => h) (Or.inl ⟨by rfl, ?_⟩) ?_ ?_
      rotate_left
      · intro w'
        go_simp
        with_reducible rfl
      rotate_left
      · simp only [Act.put, List.setIfInBounds_toArray, List.set_cons_zero, List.set_cons_succ, i64_w, i32_w]
        rfl
      refine pure_ (i := 18) (N := some 65) (v := ?_) (a' := ?_) #[true, true, true, true, true, true, true, true, true, true, true, true, true, true, true, true, false, false, true, false, false, false, false, false, false, false, false, false, false, false, false, false, false, false, false, false] rfl rfl (by kernel_rfl) (fun _ _ _ h => h) (Or.inl ⟨by rfl, ?_⟩) ?_ ?_
      rotate_left
      · intro w'
        go_simp
        with_reducible rfl
      rotate_left
      · simp only [Act.put, List.setIfInBounds_toArray, List.set_cons_zero, List.set_cons_succ, i64_w, i32_w]
        rfl
      refine take_ (i := 16) (N := some 63) (v := ?_) (a' := ?_) #[true, true, true, true, true, true, true, true, true, true, true, true, true, true, true, true, true, false, true, false, false, false, false, false, false, false, false, false, false, false, false, false, false, false, false, false] rfl rfl (by kernel_rfl) (fun _ _ _ h => h) (Or.inl ⟨by rfl, ?_⟩) hHeld ?_ ?_
      rotate_left
      · rintro w' ⟨s0, s1, s2, s3, s4, s5, s6⟩
        refine load_run 28 (.tmp 9) ?_ g9 ?_ 28 _ (0, 0) _ s3 Try.underlying28 ?_ ?_
        · rfl
        · rfl
        · rfl
        · kernel_rfl
      rotate_left
      · simp only [Act.put, List.setIfInBounds_toArray, List.set_cons_zero, List.set_cons_succ, i64_w, i32_w]
        rfl
      refine take_ (i := 17) (N := some 64) (v := ?_) (a' := ?_) #[true, true, true, true, true, true, true, true, true, true, true, true, true, true, true, true, true, true, true, false, false, false, false, false, false, false, false, false, false, false, false, false, false, false, false, false] rfl rfl (by kernel_rfl) (fun _ _ _ h => h) (Or.inl ⟨by rfl, ?_⟩) hHeld ?_ ?_
      rotate_left
      · rintro w' ⟨s0, s1, s2, s3, s4, s5, s6⟩
        refine load_run 25 (.tmp 3) ?_ gs ?_ 25 _ (0, 0) _ s0 Try.underlying25 ?_ ?_
        · rfl
        · rfl
        · rfl
        · rw [hsz]; kernel_rfl
      rotate_left
      · simp only [Act.put, List.setIfInBounds_toArray, List.set_cons_zero, List.set_cons_succ, i64_w, i32_w]
        rfl
      refine one_ (i := 19) (N := some 66) #[true, true, true, true, true, true, true, true, true, true, true, true, true, true, true, true, true, true, true, true, false, false, false, false, false, false, false, false, false, false, false, false, false, false, false, false] rfl rfl (by kernel_rfl) (by decide) (fun K hK => ?_)
      refine goes_ Try.func17 (by kernel_rfl) rfl #[.agg a, .int .i64 15, .int .i64 room, .bool true] (by rfl) rfl rfl (by simp only [List.map_toArray, List.map_cons, List.map_nil]; rfl) ?_
      with_reducible refine (H15.out _).mono ?_
      rintro e w3 ⟨rfl, hb⟩
      refine ⟨_, rfl, ?_⟩
      refine hK.out _ _ ⟨(blk_below hHeld.1 hb), (blk_below hHeld.2.1 hb), (blk_below hHeld.2.2.1 hb), (blk_below hHeld.2.2.2.1 hb), (blk_below hHeld.2.2.2.2.1 hb), (blk_below hHeld.2.2.2.2.2.1 hb), (below_step hHeld.2.2.2.2.2.2 hb)⟩ (fun hHeld => ?_)
      clear hK K
      refine norm_ (a' := ?_) ?_ ?_
      rotate_left
      · show Act.put _ (some 66) _ = _
        simp only [Act.put, List.setIfInBounds_toArray, List.set_cons_zero, List.set_cons_succ, i64_w, i32_w]
        rfl
      refine pure_ (i := 20) (N := some 67) (v := ?_) (a' := ?_) #[true, true, true, true, true, true, true, true, true, true, true, true, true, true, true, true, true, true, true, true, true, false, false, false, false, false, false, false, false, false, false, false, false, false, false, false] rfl rfl (by kernel_rfl) (fun _ _ _ h => h) (Or.inl ⟨by rfl, ?_⟩) ?_ ?_
      rotate_left
      · intro w'
        go_simp
        with_reducible rfl
      rotate_left
      · simp only [Act.put, List.setIfInBounds_toArray, List.set_cons_zero, List.set_cons_succ, i64_w, i32_w]
        rfl
      refine pure_ (i := 21) (N := some 68) (v := ?_) (a' := ?_) #[true, true, true, true, true, true, true, true, true, true, true, true, true, true, true, true, true, true, true, true, true, true, false, false, false, false, false, false, false, false, false, false, false, false, false, false] rfl rfl (by kernel_rfl) (fun _ _ _ h => h) (Or.inl ⟨by rfl, ?_⟩) ?_ ?_
      rotate_left
      · intro w'
        go_simp
        with_reducible rfl
      rotate_left
      · simp only [Act.put, List.setIfInBounds_toArray, List.set_cons_zero, List.set_cons_succ, i64_w, i32_w]
        rfl
      refine pure_ (i := 22) (N := some 69) (v := ?_) (a' := ?_) #[true, true, true, true, true, true, true, true, true, true, true, true, true, true, true, true, true, true, true, true, true, true, true, false, false, false, false, false, false, false, false, false, false, false, false, false] rfl rfl (by kernel_rfl) (fun _ _ _ h => h) (Or.inl ⟨by rfl, ?_⟩) ?_ ?_
      rotate_left
      · intro w'
        go_simp
        with_reducible rfl
      rotate_left
      · simp only [Act.put, List.setIfInBounds_toArray, List.set_cons_zero, List.set_cons_succ, i64_w, i32_w]
        rfl
      refine pure_ (i := 24) (N := some 71) (v := ?_) (a' := ?_) #[true, true, true, true, true, true, true, true, true, true, true, true, true, true, true, true, true, true, true, true, true, true, true, false, true, false, false, false, false, false, false, false, false, false, false, false] rfl rfl (by kernel_rfl) (fun _ _ _ h => h) (Or.inl ⟨by rfl, ?_⟩) ?_ ?_
      rotate_left
      · intro w'
        go_simp
        with_reducible rfl
      rotate_left
      · simp only [Act.put, List.setIfInBounds_toArray, List.set_cons_zero, List.set_cons_succ, i64_w, i32_w]
        rfl
      refine pure_ (i := 26) (N := some 73) (v := ?_) (a' := ?_) #[true, true, true, true, true, true, true, true, true, true, true, true, true, true, true, true, true, true, true, true, true, true, true, false, true, false, true, false, false, false, false, false, false, false, false, false] rfl rfl (by kernel_rfl) (fun _ _ _ h => h) (Or.inl ⟨by rfl, ?_⟩) ?_ ?_
      rotate_left
      · intro w'
        go_simp
        with_reducible rfl
      rotate_left
      · simp only [Act.put, List.setIfInBounds_toArray, List.set_cons_zero, List.set_cons_succ, i64_w, i32_w]
        rfl
      refine pure_ (i := 28) (N := some 75) (v := ?_) (a' := ?_) #[true, true, true, true, true, true, true, true, true, true, true, true, true, true, true, true, true, true, true, true, true, true, true, false, true, false, true, false, true, false, false, false, false, false, false, false] rfl rfl (by kernel_rfl) (fun _ _ _ h => h) (Or.inl ⟨by rfl, ?_⟩) ?_ ?_
      rotate_left
      · intro w'
        go_simp
        with_reducible rfl
      rotate_left
      · simp only [Act.put, List.setIfInBounds_toArray, List.set_cons_zero, List.set_cons_succ, i64_w, i32_w]
        rfl
      refine pure_ (i := 30) (N := some 77) (v := ?_) (a' := ?_) #[true, true, true, true, true, true, true, true, true, true, true, true, true, true, true, true, true, true, true, true, true, true, true, false, true, false, true, false, true, false, true, false, false, false, false, false] rfl rfl (by kernel_rfl) (fun _ _ _ h => h) (Or.inl ⟨by rfl, ?_⟩) ?_ ?_
      rotate_left
      · intro w'
        go_simp
        with_reducible rfl
      rotate_left
      · simp only [Act.put, List.setIfInBounds_toArray, List.set_cons_zero, List.set_cons_succ, i64_w, i32_w]
        rfl
      refine take_ (i := 23) (N := some 70) (v := ?_) (a' := ?_) #[true, true, true, true, true, true, true, true, true, true, true, true, true, true, true, true, true, true, true, true, true, true, true, true, true, false, true, false, true, false, true, false, false, false, false, false] rfl rfl (by kernel_rfl) (fun _ _ _ h => h) (Or.inl ⟨by rfl, ?_⟩) hHeld ?_ ?_
      rotate_left
      · rintro w' ⟨s0, s1, s2, s3, s4, s5, s6⟩
        refine load_run 28 (.tmp 10) ?_ g10 ?_ 28 _ (0, 0) _ s4 Try.underlying28 ?_ ?_
        · rfl
        · rfl
        · rfl
        · kernel_rfl
      rotate_left
      · simp only [Act.put, List.setIfInBounds_toArray, List.set_cons_zero, List.set_cons_succ, i64_w, i32_w]
        rfl
      refine take_ (i := 25) (N := some 72) (v := ?_) (a' := ?_) #[true, true, true, true, true, true, true, true, true, true, true, true, true, true, true, true, true, true, true, true, true, true, true, true, true, true, true, false, true, false, true, false, false, false, false, false] rfl rfl (by kernel_rfl) (fun _ _ _ h => h) (Or.inl ⟨by rfl, ?_⟩) hHeld ?_ ?_
      rotate_left
      · rintro w' ⟨s0, s1, s2, s3, s4, s5, s6⟩
        have z : w'.cell? ⟨gn, 0, none⟩ = some (.int .i64 e0) := (blk_cell s5 0).trans rfl
        go_simp
        with_reducible rfl
      rotate_left
      · simp only [Act.put, List.setIfInBounds_toArray, List.set_cons_zero, List.set_cons_succ, i64_w, i32_w]
        rfl
      refine take_ (i := 27) (N := some 74) (v := ?_) (a' := ?_) #[true, true, true, true, true, true, true, true, true, true, true, true, true, true, true, true, true, true, true, true, true, true, true, true, true, true, true, true, true, false, true, false, false, false, false, false] rfl rfl (by kernel_rfl) (fun _ _ _ h => h) (Or.inl ⟨by rfl, ?_⟩) hHeld ?_ ?_
      rotate_left
      · rintro w' ⟨s0, s1, s2, s3, s4, s5, s6⟩
        have z : w'.cell? ⟨gn, 1, none⟩ = some (.int .i64 e1) := (blk_cell s5 1).trans rfl
        go_simp
        with_reducible rfl
      rotate_left
      · simp only [Act.put, List.setIfInBounds_toArray, List.set_cons_zero, List.set_cons_succ, i64_w, i32_w]
        rfl
      refine take_ (i := 29) (N := some 76) (v := ?_) (a' := ?_) #[true, true, true, true, true, true, true, true, true, true, true, true, true, true, true, true, true, true, true, true, true, true, true, true, true, true, true, true, true, true, true, false, false, false, false, false] rfl rfl (by kernel_rfl) (fun _ _ _ h => h) (Or.inl ⟨by rfl, ?_⟩) hHeld ?_ ?_
      rotate_left
      · rintro w' ⟨s0, s1, s2, s3, s4, s5, s6⟩
        have z : w'.cell? ⟨gn, 2, none⟩ = some (.int .i64 e2) := (blk_cell s5 2).trans rfl
        go_simp
        with_reducible rfl
      rotate_left
      · simp only [Act.put, List.setIfInBounds_toArray, List.set_cons_zero, List.set_cons_succ, i64_w, i32_w]
        rfl
      refine take_ (i := 31) (N := some 78) (v := ?_) (a' := ?_) #[true, true, true, true, true, true, true, true, true, true, true, true, true, true, true, true, true, true, true, true, true, true, true, true, true, true, true, true, true, true, true, true, false, false, false, false] rfl rfl (by kernel_rfl) (fun _ _ _ h => h) (Or.inl ⟨by rfl, ?_⟩) hHeld ?_ ?_
      rotate_left
      · rintro w' ⟨s0, s1, s2, s3, s4, s5, s6⟩
        have z : w'.cell? ⟨gn, 3, none⟩ = some (.int .i64 e3) := (blk_cell s5 3).trans rfl
        go_simp
        with_reducible rfl
      rotate_left
      · simp only [Act.put, List.setIfInBounds_toArray, List.set_cons_zero, List.set_cons_succ, i64_w, i32_w]
        rfl
      refine pure_ (i := 32) (N := some 79) (v := ?_) (a' := ?_) #[true, true, true, true, true, true, true, true, true, true, true, true, true, true, true, true, true, true, true, true, true, true, true, true, true, true, true, true, true, true, true, true, true, false, false, false] rfl rfl (by kernel_rfl) (fun _ _ _ h => h) (Or.inl ⟨by rfl, ?_⟩) ?_ ?_
      rotate_left
      · intro w'
        go_simp
        with_reducible rfl
      rotate_left
      · simp only [Act.put, List.setIfInBounds_toArray, List.set_cons_zero, List.set_cons_succ, i64_w, i32_w]
        rfl
      refine pure_ (i := 33) (N := some 80) (v := ?_) (a' := ?_) #[true, true, true, true, true, true, true, true, true, true, true, true, true, true, true, true, true, true, true, true, true, true, true, true, true, true, true, true, true, true, true, true, true, true, false, false] rfl rfl (by kernel_rfl) (fun _ _ _ h => h) (Or.inl ⟨by rfl, ?_⟩) ?_ ?_
      rotate_left
      · intro w'
        go_simp
        with_reducible rfl
      rotate_left
      · simp only [Act.put, List.setIfInBounds_toArray, List.set_cons_zero, List.set_cons_succ, i64_w, i32_w]
        rfl
      refine pure_ (i := 34) (N := some 81) (v := ?_) (a' := ?_) #[true, true, true, true, true, true, true, true, true, true, true, true, true, true, true, true, true, true, true, true, true, true, true, true, true, true, true, true, true, true, true, true, true, true, true, false] rfl rfl (by kernel_rfl) (fun _ _ _ h => h) (Or.inl ⟨by rfl, ?_⟩) ?_ ?_
      rotate_left
      · intro w'
        go_simp
        with_reducible rfl
      rotate_left
      · simp only [Act.put, List.setIfInBounds_toArray, List.set_cons_zero, List.set_cons_succ, i64_w, i32_w]
        rfl
      refine pure_ (i := 35) (N := some 6) (v := ?_) (a' := ?_) #[true, true, true, true, true, true, true, true, true, true, true, true, true, true, true, true, true, true, true, true, true, true, true, true, true, true, true, true, true, true, true, true, true, true, true, true] rfl rfl (by kernel_rfl) (fun _ _ _ h => h) (Or.inl ⟨by rfl, ?_⟩) ?_ ?_
      rotate_left
      · intro w'
        go_simp
        with_reducible rfl
      rotate_left
      · simp only [Act.put, List.setIfInBounds_toArray, List.set_cons_zero, List.set_cons_succ, i64_w, i32_w]
        rfl
      refine done_ (by kernel_rfl) ?_
      go_wp2
      go_ret
      exact ⟨rfl, hHeld.2.2.2.2.2.2⟩
theorem MarginsFrame.walk (xs ys : List Int) (room : Int) (w : World) (lx : xs.length = 118) (_ : ∀ n ∈ xs, (Lit.int .i64 n).wf = true) (ly : ys.length = 4) (_ : ∀ n ∈ ys, (Lit.int .i64 n).wf = true) (_ : (Lit.int .i64 room).wf = true) :
    Calls Try.prog 3 #[.agg (nums .i64 xs).toArray, .agg (nums .i64 ys).toArray, .int .i64 room] w fun e w' => e = .returned (.bool true) ∧ Below w.heap.size w w' := by
  match ys, ly with
  | [p0, p1, p2, p3], _ => exact MarginsFrame xs p0 p1 p2 p3 room lx w
end Go.Proofs.Ytaejmgdpnnhpmaa.QSty
