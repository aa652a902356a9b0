/- margins.Frame and its closure, walked by hand: margins, borders, paddings. -/
import Derived.Test.YtaejmgdpnnhpmaaStyEdges
namespace Go.Proofs.Ytaejmgdpnnhpmaa.QSty
open Go.RowKit Go.Proofs.YtaejmgdpnnhpmaaW.PrintWords Go.Proofs.YtaejmgdpnnhpmaaW.PrintLast Go.Proofs.YtaejmgdpnnhpmaaW.PrintMore
set_option linter.unusedVariables false
set_option linter.unusedSimpArgs false
/-- Four numbers as a struct's value. -/
def agg4 (a b c d : Int) : Value := .agg #[.int .i64 a, .int .i64 b, .int .i64 c, .int .i64 d]
def edg (xs : List Int) (p room : Int) : Value := agg4 (edg1 xs p room) (edg1 xs (p + 1) room) (edg1 xs (p + 2) room) (edg1 xs (p + 3) room)
def edgA (xs : List Int) (p room : Int) : Value := agg4 (mx 0 (edg1 xs p room)) (mx 0 (edg1 xs (p + 1) room)) (mx 0 (edg1 xs (p + 2) room)) (mx 0 (edg1 xs (p + 3) room))
set_option maxHeartbeats 8000000 in
set_option maxRecDepth 100000 in
theorem margins_Frame_1.calls (xs : List Int) (p room : Int) (hl : xs.length = 118) (hp0 : 0 ≤ p) (hp1 : p ≤ 100) (gs gm : Nat) (w : World) (hs : w.heap[gs]? = some (.cells (nums .i64 xs).toArray 25 (0, 0))) (hm : w.heap[gm]? = some (.cells #[.int .i64 room] 3 (0, 0))) :
    Calls Try.prog 45 #[.int .i64 p, .pointer (some ⟨gs, 0, none⟩), .pointer (some ⟨gm, 0, none⟩)] w fun e w' => e = .returned (edg xs p room) ∧ Below w.heap.size w w' := by
  have HC : Aside0 (∀ w, Calls Try.prog 14 #[sty xs, agg4 p (p + 1) (p + 2) (p + 3), .int .i64 room] w fun e w' => e = .returned (edg xs p room) ∧ Below w.heap.size w w') := ⟨fun w => margins_Edges.calls xs p (p + 1) (p + 2) (p + 3) room hl w⟩
  unfold edg agg4 at *
  obtain ⟨e0, he0⟩ : ∃ e, edg1 xs p room = e := ⟨_, rfl⟩
  obtain ⟨e1, he1⟩ : ∃ e, edg1 xs (p + 1) room = e := ⟨_, rfl⟩
  obtain ⟨e2, he2⟩ : ∃ e, edg1 xs (p + 2) room = e := ⟨_, rfl⟩
  obtain ⟨e3, he3⟩ : ∃ e, edg1 xs (p + 3) room = e := ⟨_, rfl⟩
  rw [he0, he1, he2, he3] at HC ⊢
  clear he0 he1 he2 he3
  unfold sty at HC
  obtain ⟨a, ha⟩ : ∃ a, (nums .i64 xs).toArray = a := ⟨_, rfl⟩
  have hsz : a.size = 118 := by rw [← ha]; simp [nums, hl]
  rw [ha] at hs HC
  clear ha hl
  have HB := Aside0.mk (Below.refl w.heap.size w)
  have HS := Aside0.mk hs
  have HM := Aside0.mk hm
  clear hs hm
  go_enter Try.func45, Try.ntmps45
  go_wp2_with (first
    | ((with_reducible refine gate_dst (N := 4) rfl ?_); refine box_event rfl (N := 4) rfl (cs := #[.int .i64 0, .int .i64 0, .int .i64 0, .int .i64 0]) (t := 28) (by first | (go_simp; done) | (go_simp; rfl)) ?_; intro gr hgr w3 hbx hb; have HR := Aside0.mk hbx; have HG := Aside0.mk (show w.heap.size ≤ gr by omega); have HS3 := Aside0.mk (blk_below HS.out hb); have HM3 := Aside0.mk (blk_below HM.out hb); have HB3 := Aside0.mk (below_step HB.out hb); clear hgr hbx hb; have hm3 : w3.cell? ⟨gm, 0, none⟩ = some (.int .i64 room) := ((blk_cell HM3.out 0).trans rfl))
    | ((with_reducible refine gate_dst (N := 5) rfl ?_); refine wpList_load_row rfl 25 _ rfl gs rfl 25 _ (0, 0) _ HS3.out Try.underlying25 rfl (by rw [hsz]; kernel_rfl) ?_)
    | (go_at_call 14; (refine (HC.out _).mono ?_); rintro e w5 ⟨rfl, hb⟩; have HR5 := Aside0.mk (blk_below HR.out hb); have HB5 := Aside0.mk (below_step HB3.out hb); clear hb; have hq0 : w5.cell? ⟨gr, 0, none⟩ = some (.int .i64 0) := ((blk_cell HR5.out 0).trans rfl); have hq1 : w5.cell? ⟨gr, 1, none⟩ = some (.int .i64 0) := ((blk_cell HR5.out 1).trans rfl); have hq2 : w5.cell? ⟨gr, 2, none⟩ = some (.int .i64 0) := ((blk_cell HR5.out 2).trans rfl); have hq3 : w5.cell? ⟨gr, 3, none⟩ = some (.int .i64 0) := ((blk_cell HR5.out 3).trans rfl); have hf0 := blk_frozen HR5.out 0; have hf1 := blk_frozen HR5.out 1; have hf2 := blk_frozen HR5.out 2; have hf3 := blk_frozen HR5.out 3))
  refine bodyPost_ret (results_cell_row rfl _ _ gr 28 #[.int .i64 e0, .int .i64 e1, .int .i64 e2, .int .i64 e3] (0, 0) _ rfl ?_ Try.underlying28 rfl (by kernel_rfl)) rfl ⟨rfl, ?_⟩
  · exact blk_put (blk_put (blk_put (blk_put HR5.out 0 (.int .i64 e0) rfl) 1 (.int .i64 e1) rfl) 2 (.int .i64 e2) rfl) 3 (.int .i64 e3) rfl
  · exact (((HB5.out.setCell HG.out _).setCell HG.out _).setCell HG.out _).setCell HG.out _
end Go.Proofs.Ytaejmgdpnnhpmaa.QSty
