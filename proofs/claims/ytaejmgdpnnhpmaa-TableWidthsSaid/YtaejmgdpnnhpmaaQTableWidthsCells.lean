-- Written by a program of this session: a turn of the kit's print over contracts that were proved by hand. Not trusted: Lean checks it.
import Derived.Test.YtaejmgdpnnhpmaaQTableWidthsx0
import Derived.Test.YtaejmgdpnnhpmaaQTableWidthsx1
namespace Go.Proofs.Ytaejmgdpnnhpmaa.QTableWidths
open Go.RowKit Go.Proofs.YtaejmgdpnnhpmaaW.PrintWords Go.Proofs.YtaejmgdpnnhpmaaW.PrintLast Go.Proofs.YtaejmgdpnnhpmaaW.PrintMore
attribute [local go_sem] max2_int min2_int max_two min_two max_three min_three max_four min_four   -- for this text's walks alone
set_option linter.unusedVariables false
set_option linter.unusedSimpArgs false

/-! ### table_cells: function 82 -/
mutual
def table_cells.l0 : Nat → List (S116) → Int → List (List (S123)) → Int → Int → Option ((List (S116)) × Int)
  | 0, _, _, _, _, _ => none
  | k + 1, x2, x3, x10, x11, x12 => if x12 < x11 then (if 0 ≤ x12 then (if x12 < (x10.length : Int) then (table_cells.l1 k x2 x3 0 x10 x11 x12 (rd_L2 x10 x12) ((rd_L2 x10 x12).length : Int) 0) else (none)) else (none)) else (some (x2, x3))
def table_cells.l1 : Nat → List (S116) → Int → Int → List (List (S123)) → Int → Int → List (S123) → Int → Int → Option ((List (S116)) × Int)
  | 0, _, _, _, _, _, _, _, _, _ => none
  | k + 1, x2, x3, x6, x10, x11, x12, x16, x17, x18 => if x18 < x17 then (if 0 ≤ x18 then (if x18 < (x16.length : Int) then (if x6 ≥ 100 then (table_cells.l0 k x2 (mx x3 x6) x10 x11 (wrap64 (x12 + 1))) else ((fix_Cut.f ((rd_T123 x16 x18).f0)).bind fun t106 => ((fix_Cut.f ((rd_T123 x16 x18).f1)).bind fun t107 => (if x2.length < 4398046511104 then (table_cells.l1 k (x2 ++ [(⟨mx 0 t106, mx t107 (mx 0 t106), x6, mn (mn (mx 1 ((rd_T123 x16 x18).f2)) 50) (wrap64 (100 - x6))⟩ : S116)]) x3 (wrap64 (x6 + (mn (mn (mx 1 ((rd_T123 x16 x18).f2)) 50) (wrap64 (100 - x6))))) x10 x11 x12 x16 x17 (wrap64 (x18 + 1))) else (none))))) else (none)) else (none)) else (table_cells.l0 k x2 (mx x3 x6) x10 x11 (wrap64 (x12 + 1)))
end
def table_cells.f (k : Nat) (l0 : List (List (S123))) : Option ((List (S116)) × Int) := table_cells.l0 k ([] : List (S116)) 0 l0 (l0.length : Int) 0
theorem table_cells.mono_l : ∀ k, (∀ y0 y1 y2 y3 y4, LeO (table_cells.l0 k y0 y1 y2 y3 y4) (table_cells.l0 (k + 1) y0 y1 y2 y3 y4)) ∧ (∀ y0 y1 y2 y3 y4 y5 y6 y7 y8, LeO (table_cells.l1 k y0 y1 y2 y3 y4 y5 y6 y7 y8) (table_cells.l1 (k + 1) y0 y1 y2 y3 y4 y5 y6 y7 y8))
  | 0 => ⟨fun _ _ _ _ _ r h => by simp [table_cells.l0] at h, fun _ _ _ _ _ _ _ _ _ r h => by simp [table_cells.l1] at h⟩
  | k + 1 => by
    obtain ⟨ih0, ih1⟩ := table_cells.mono_l k
    refine ⟨?_, ?_⟩
    · intro y0 y1 y2 y3 y4
      unfold table_cells.l0
      repeat' first
      | (with_reducible exact ih0 _ _ _ _ _)
      | (with_reducible exact ih1 _ _ _ _ _ _ _ _ _)
      | (with_reducible exact LeO.refl _)
      | (with_reducible exact LeO.none _)
      | (with_reducible refine LeO.ite ?_ ?_)
      | (with_reducible refine LeO.bind ?_ (fun _ => ?_))
      | exact ih0 _ _ _ _ _
      | exact ih1 _ _ _ _ _ _ _ _ _
      | exact LeO.none _
      | refine LeO.ite ?_ ?_
      | refine LeO.bind ?_ (fun _ => ?_)
    · intro y0 y1 y2 y3 y4 y5 y6 y7 y8
      unfold table_cells.l1
      repeat' first
      | (with_reducible exact ih0 _ _ _ _ _)
      | (with_reducible exact ih1 _ _ _ _ _ _ _ _ _)
      | (with_reducible exact LeO.refl _)
      | (with_reducible exact LeO.none _)
      | (with_reducible refine LeO.ite ?_ ?_)
      | (with_reducible refine LeO.bind ?_ (fun _ => ?_))
      | exact ih0 _ _ _ _ _
      | exact ih1 _ _ _ _ _ _ _ _ _
      | exact LeO.none _
      | refine LeO.ite ?_ ?_
      | refine LeO.bind ?_ (fun _ => ?_)
theorem table_cells.mono : ∀ a0 k, LeO (table_cells.f k a0) (table_cells.f (k + 1) a0) := by
  intro a0 k
  obtain ⟨ih0, ih1⟩ := table_cells.mono_l k
  unfold table_cells.f
  repeat' first
      | (with_reducible exact ih0 _ _ _ _ _)
      | (with_reducible exact ih1 _ _ _ _ _ _ _ _ _)
      | (with_reducible exact LeO.refl _)
      | (with_reducible exact LeO.none _)
      | (with_reducible refine LeO.ite ?_ ?_)
      | (with_reducible refine LeO.bind ?_ (fun _ => ?_))
      | exact ih0 _ _ _ _ _
      | exact ih1 _ _ _ _ _ _ _ _ _
      | exact LeO.none _
      | refine LeO.ite ?_ ?_
      | refine LeO.bind ?_ (fun _ => ?_)
def table_cells.T9 : Bool × List (List Nat × List Nat) := (true, [([], []), ([0], [0]), ([1], [1]), ([2], [2]), ([], []), ([4], [4]), ([5, 2], [5]), ([], []), ([], []), ([8], [8]), ([9], [9]), ([], []), ([11], [11]), ([10, 12], [10, 12]), ([3, 6, 7, 13], [3, 6, 7, 13]), ([], []), ([15, 14, 6, 0, 1, 2, 3, 4, 5, 6, 7, 8, 9, 10, 11, 12, 13, 14, 15], [14, 15])])
def table_cells.B9 : List Nat := [0, 1, 3, 7, 0, 16, 55, 0, 0, 256, 768, 0, 2048, 7936, 16383, 0, 65535]
theorem table_cells.tab9 : rtab .any (opsOf Try.f82 9) = table_cells.T9 := by kernel_rfl
theorem table_cells.bits9 : waitsOk table_cells.T9.2 table_cells.B9 = true := by kernel_rfl
set_option maxHeartbeats 8000000 in
set_option maxRecDepth 100000 in
theorem table_cells.calls (k : Nat) (A0 : Option Addr) (c0 : Nat) (l0 : List (List (S123))) (r1 : List (S116)) (r2 : Int) (w : World) (hr0 : Kd.C (Kd.slice 123 k123) w A0 l0.length l0) (hc0 : l0.length ≤ c0) (h : table_cells.f k l0 = some (r1, r2)) :
    Calls Try.prog 82 #[.slice A0 l0.length c0] w fun e w' => ∃ v0_ : Value, e = .returned (.tuple #[v0_, .int .i64 r2]) ∧ Kd.R k116 116 w' w.heap.size (fun _ => True) v0_ r1 ∧ Below w.heap.size w w' := by
  have hu123 := Try.underlying123
  have hu116 := Try.underlying116
  have HR0 := Aside0.mk hr0
  have HC0 := Aside0.mk hc0
  clear hr0 hc0
  have HB := Aside0.mk (Below.refl w.heap.size w)
  have H : (table_cells.l0 k ([] : List (S116)) 0 l0 (l0.length : Int) 0) = some (r1, r2) := h
  clear h
  have H' := Aside0.mk H
  clear H
  go_enter Try.func82, Try.ntmps82
  go_wp2
  go_loopg [2, 3, 12] k (fun kq v2 v3 v12 w' => ∃ (x2_1 : List (S116)) (x3_1 : Int) (x12_1 : Int), v3 = .int .i64 x3_1 ∧ v12 = .int .i64 x12_1 ∧ Aside0 (table_cells.l0 kq x2_1 x3_1 l0 (l0.length : Int) x12_1 = some (r1, r2)) ∧ Aside0 (kq ≤ k) ∧ Aside0 (Kd.R k116 116 w' w.heap.size (fun _ => True) v2 x2_1) ∧ Aside0 (Below w.heap.size w w'))
  case atStart => exact ⟨(([] : List (S116))), (0), (0), (by first | rfl | (simp; done) | (simp [*]; done)), (by first | rfl | (simp; done) | (simp [*]; done)), H', ⟨Nat.le_refl _⟩, ⟨by first | exact Kd.R_nil _ _ _ _ _ | exact Kd.N_nil _ _ _ _ _ | exact Kd.V_nil _ _ _ _ _ | exact Kd.Q_nil _ _ _ _ _ | exact Kd.S_nil _ _ _ _ _⟩, ⟨by repeat (first | (with_reducible first | exact HB.out | apply below_alloc | apply pw_below_drewN | apply below_drew1) | exact HB.out)⟩⟩
  case round =>
    clear H'
    obtain ⟨x2_1, x3_1, x12_1, rfl, rfl, HA, HK1, HO_2, HB⟩ := hrel
    cases gk with
    | zero => exact absurd HA.out (by simp [table_cells.l0])
    | succ k1 =>
      have H := HA.out
      clear HA
      simp only [table_cells.l0] at H
      by_cases c2 : x12_1 < (l0.length : Int)
      · rw [if_pos c2] at H
        have c2b0 : decide (x12_1 < (l0.length : Int)) = true := decide_eq_true c2
        clear c2
        by_cases c3 : 0 ≤ x12_1
        · rw [if_pos c3] at H
          have c3b0 : decide (0 ≤ x12_1) = true := decide_eq_true c3
          clear c3
          by_cases c4 : x12_1 < (l0.length : Int)
          · rw [if_pos c4] at H
            have c4b0 : decide (x12_1 < (l0.length : Int)) = true := decide_eq_true c4
            clear c4
            have H' := Aside0.mk H
            clear H
            have p103 : 0 ≤ (x12_1 : Int) := of_decide_eq_true (by first | (with_reducible assumption) | assumption)
            have q103 : x12_1 < (l0.length : Int) := of_decide_eq_true (by first | (with_reducible assumption) | assumption)
            obtain ⟨ad103, A103_0, c103_0, e103, hx103_0, hl103_0, hi103_0⟩ := at_L2 HR0.out x12_1 p103 q103
            cases e103
            replace hx103_0 := (HB.out.cell (World.block_lt_of_cell? w _ hx103_0)).trans hx103_0
            have HR103_0 := Aside0.mk hi103_0
            have HC103_0 := Aside0.mk hl103_0
            clear hi103_0 hl103_0
            replace p103 := eq_true p103
            replace q103 := eq_true q103
            go_wp2
            go_loopg [2, 6, 18] k1 (fun kq v2 v6 v18 w' => ∃ (x2_2 : List (S116)) (x6_2 : Int) (x18_2 : Int), v6 = .int .i64 x6_2 ∧ v18 = .int .i64 x18_2 ∧ Aside0 (table_cells.l1 kq x2_2 x3_1 x6_2 l0 (l0.length : Int) x12_1 (rd_L2 l0 x12_1) ((rd_L2 l0 x12_1).length : Int) x18_2 = some (r1, r2)) ∧ Aside0 (kq ≤ k1) ∧ Aside0 (Kd.R k116 116 w' w.heap.size (fun _ => True) v2 x2_2) ∧ Aside0 (Below w.heap.size w w'))
            case atStart => exact ⟨(x2_1), (0), (0), (by first | rfl | (simp; done) | (simp [*]; done)), (by first | rfl | (simp; done) | (simp [*]; done)), H', ⟨Nat.le_refl _⟩, ⟨by (with_reducible repeat (first | apply Kd.R_alloc | apply Kd.R_drewN | apply Kd.R_drew)); exact HO_2.out⟩, ⟨by repeat (first | (with_reducible first | exact HB.out | apply below_alloc | apply pw_below_drewN | apply below_drew1) | exact HB.out)⟩⟩
            case round =>
              clear H'
              try clear c1
              try clear p1
              try clear q1
              try clear hx1
              try clear c2
              try clear c2b0
              try clear p2
              try clear c3
              try clear c3b0
              try clear c4
              try clear c4b0
              try clear hx103_0
              try clear p103
              try clear q103
              obtain ⟨x2_2, x6_2, x18_2, rfl, rfl, HA, HK2, HO_2, HB⟩ := hrel
              cases gk with
              | zero => exact absurd HA.out (by simp [table_cells.l1])
              | succ k2 =>
                have H := HA.out
                clear HA
                simp only [table_cells.l1] at H
                by_cases c5 : x18_2 < ((rd_L2 l0 x12_1).length : Int)
                · rw [if_pos c5] at H
                  have c5b0 : decide (x18_2 < ((rd_L2 l0 x12_1).length : Int)) = true := decide_eq_true c5
                  clear c5
                  by_cases c6 : 0 ≤ x18_2
                  · rw [if_pos c6] at H
                    have c6b0 : decide (0 ≤ x18_2) = true := decide_eq_true c6
                    clear c6
                    by_cases c7 : x18_2 < ((rd_L2 l0 x12_1).length : Int)
                    · rw [if_pos c7] at H
                      have c7b0 : decide (x18_2 < ((rd_L2 l0 x12_1).length : Int)) = true := decide_eq_true c7
                      clear c7
                      by_cases c8 : x6_2 ≥ 100
                      · rw [if_pos c8] at H
                        have c8b0 : decide (100 ≤ x6_2) = true := decide_eq_true c8
                        clear c8
                        obtain ⟨ji9, hji9⟩ : ∃ j_ : Int, (mx x3_1 x6_2) = j_ := ⟨_, rfl⟩
                        replace H : (table_cells.l0 k2 x2_2 ji9 l0 (l0.length : Int) (wrap64 (x12_1 + 1))) = some (r1, r2) := by first | (rw [hji9] at H; exact H) | (simp only [hji9] at H ⊢; exact H)
                        have hji9_ : (if x3_1 < x6_2 then x6_2 else x3_1) = ji9 := hji9
                        have H' := Aside0.mk H
                        clear H
                        have p104 : 0 ≤ (x18_2 : Int) := of_decide_eq_true (by first | (with_reducible assumption) | assumption)
                        have q104 : x18_2 < ((rd_L2 l0 x12_1).length : Int) := of_decide_eq_true (by first | (with_reducible assumption) | assumption)
                        obtain ⟨ad104, e104, hx104_0, hx104_1, hx104_2⟩ := at_T123 HR103_0.out x18_2 p104 q104
                        cases e104
                        replace hx104_0 := (HB.out.cell (World.block_lt_of_cell? w _ hx104_0)).trans hx104_0
                        replace hx104_1 := (HB.out.cell (World.block_lt_of_cell? w _ hx104_1)).trans hx104_1
                        replace hx104_2 := (HB.out.cell (World.block_lt_of_cell? w _ hx104_2)).trans hx104_2
                        replace p104 := eq_true p104
                        replace q104 := eq_true q104
                        go_wp2_with (first | ((with_reducible refine gate_dst (N := 8) rfl ?_); refine box_event ?hg (N := 8) ?hd (cs := #[.int .i64 0, .int .i64 0, .int .i64 0]) (t := 123) ?hr ?_; (case hd => rfl); (case hg => rfl); (case hr => first | (go_simp; done) | (go_simp; rfl)); intro gb105 hg w10 hbox hb; have n0_ := Aside0.mk (Kd.R_below (by (with_reducible repeat (first | apply Kd.R_alloc | apply Kd.R_drewN | apply Kd.R_drew)); exact HO_2.out) hb); have n1_ := Aside0.mk (below_step (by repeat (first | (with_reducible first | exact HB.out | apply below_alloc | apply pw_below_drewN | apply below_drew1) | exact HB.out)) hb); have n2_ := Aside0.mk (hbox); have n3_ := Aside0.mk ((by rw [hg]; exact (below_size (by repeat (first | (with_reducible first | exact HB.out | apply below_alloc | apply pw_below_drewN | apply below_drew1) | exact HB.out))) : w.heap.size ≤ gb105)); have n4_ := Aside0.mk ((by rw [hg]; exact (below_size (by repeat (first | (with_reducible first | exact HB.out | apply below_alloc | apply pw_below_drewN | apply below_drew1) | exact HB.out))) : w.heap.size ≤ gb105)); clear HO_2; clear HB; have HO_2 := n0_; have HB := n1_; have BK105 := n2_; have GW105 := n3_; have GE105 := n4_; clear n0_ n1_ n2_ n3_ n4_; clear hb hbox hg; have hcz11_0 : w10.cell? ⟨gb105, 0, none⟩ = some (.int .i64 0) := (blk_cell BK105.out 0).trans rfl; have hcz11_1 : w10.cell? ⟨gb105, 1, none⟩ = some (.int .i64 0) := (blk_cell BK105.out 1).trans rfl; have hcz11_2 : w10.cell? ⟨gb105, 2, none⟩ = some (.int .i64 0) := (blk_cell BK105.out 2).trans rfl; have hfz11_0 := blk_frozen BK105.out 0; have hfz11_1 := blk_frozen BK105.out 1; have hfz11_2 := blk_frozen BK105.out 2))
                        go_roundg k2
                        case measure => have := HK1.out; have := HK2.out; omega
                        case rel => exact ⟨(x2_2), (ji9), (wrap64 (x12_1 + 1)), (by first | rfl | (simp; done) | (simp only [← hji9] <;> (first | rfl | simp)) | (simp [*]; done)), (by first | rfl | (simp; done) | (simp [*]; done)), H', ⟨by have := HK1.out; have := HK2.out; omega⟩, ⟨by (with_reducible repeat (first | apply Kd.R_alloc | apply Kd.R_drewN | apply Kd.R_drew)); exact Kd.R_mono (Kd.R_far (p := ⟨gb105, 2, none⟩) (Kd.R_far (p := ⟨gb105, 1, none⟩) (Kd.R_far (p := ⟨gb105, 0, none⟩) (Kd.R_types HO_2.out BK105.out (by decide)) (fun _ hk => hk.2) (.int .i64 ((rd_T123 (rd_L2 l0 x12_1) x18_2).f0))) (fun _ hk => hk.2) (.int .i64 ((rd_T123 (rd_L2 l0 x12_1) x18_2).f1))) (fun _ hk => hk.2) (.int .i64 ((rd_T123 (rd_L2 l0 x12_1) x18_2).f2))) (fun _ hk => trivial)⟩, ⟨by repeat (first | (with_reducible first | exact HB.out | apply below_alloc | apply pw_below_drewN | apply below_drew1 | refine below_set ?_ GE105.out) | exact HB.out)⟩⟩
                      · rw [if_neg c8] at H
                        have c8b0 : decide (100 ≤ x6_2) = false := decide_eq_false c8
                        clear c8
                        replace H := Option.bind_eq_some_iff.mp H
                        obtain ⟨t106, A120, H⟩ := H
                        replace H : ((fix_Cut.f ((rd_T123 (rd_L2 l0 x12_1) x18_2).f1)).bind fun t107 => (if x2_2.length < 4398046511104 then (table_cells.l1 k2 (x2_2 ++ [(⟨mx 0 t106, mx t107 (mx 0 t106), x6_2, mn (mn (mx 1 ((rd_T123 (rd_L2 l0 x12_1) x18_2).f2)) 50) (wrap64 (100 - x6_2))⟩ : S116)]) x3_1 (wrap64 (x6_2 + (mn (mn (mx 1 ((rd_T123 (rd_L2 l0 x12_1) x18_2).f2)) 50) (wrap64 (100 - x6_2))))) l0 (l0.length : Int) x12_1 (rd_L2 l0 x12_1) ((rd_L2 l0 x12_1).length : Int) (wrap64 (x18_2 + 1))) else (none))) = some (r1, r2) := H
                        have A12 := Aside0.mk A120
                        clear A120
                        obtain ⟨ji13, hji13⟩ : ∃ j_ : Int, (mx 0 t106) = j_ := ⟨_, rfl⟩
                        replace H : ((fix_Cut.f ((rd_T123 (rd_L2 l0 x12_1) x18_2).f1)).bind fun t107 => (if x2_2.length < 4398046511104 then (table_cells.l1 k2 (x2_2 ++ [(⟨ji13, mx t107 (ji13), x6_2, mn (mn (mx 1 ((rd_T123 (rd_L2 l0 x12_1) x18_2).f2)) 50) (wrap64 (100 - x6_2))⟩ : S116)]) x3_1 (wrap64 (x6_2 + (mn (mn (mx 1 ((rd_T123 (rd_L2 l0 x12_1) x18_2).f2)) 50) (wrap64 (100 - x6_2))))) l0 (l0.length : Int) x12_1 (rd_L2 l0 x12_1) ((rd_L2 l0 x12_1).length : Int) (wrap64 (x18_2 + 1))) else (none))) = some (r1, r2) := by first | (rw [hji13] at H; exact H) | (simp only [hji13] at H ⊢; exact H)
                        (try rw [hji13] at A12)
                        (try (have hji13l : 0 ≤ ji13 := by (rw [← hji13]; unfold mx; (repeat' split) <;> omega)))
                        (try (have hji13m : 0 ≤ ji13 := by omega))
                        have hji13_ : (if 0 < t106 then t106 else 0) = ji13 := hji13
                        replace H := Option.bind_eq_some_iff.mp H
                        obtain ⟨t107, A140, H⟩ := H
                        replace H : (if x2_2.length < 4398046511104 then (table_cells.l1 k2 (x2_2 ++ [(⟨ji13, mx t107 (ji13), x6_2, mn (mn (mx 1 ((rd_T123 (rd_L2 l0 x12_1) x18_2).f2)) 50) (wrap64 (100 - x6_2))⟩ : S116)]) x3_1 (wrap64 (x6_2 + (mn (mn (mx 1 ((rd_T123 (rd_L2 l0 x12_1) x18_2).f2)) 50) (wrap64 (100 - x6_2))))) l0 (l0.length : Int) x12_1 (rd_L2 l0 x12_1) ((rd_L2 l0 x12_1).length : Int) (wrap64 (x18_2 + 1))) else (none)) = some (r1, r2) := H
                        have A14 := Aside0.mk A140
                        clear A140
                        obtain ⟨ji15, hji15⟩ : ∃ j_ : Int, (mx 1 ((rd_T123 (rd_L2 l0 x12_1) x18_2).f2)) = j_ := ⟨_, rfl⟩
                        replace H : (if x2_2.length < 4398046511104 then (table_cells.l1 k2 (x2_2 ++ [(⟨ji13, mx t107 (ji13), x6_2, mn (mn (ji15) 50) (wrap64 (100 - x6_2))⟩ : S116)]) x3_1 (wrap64 (x6_2 + (mn (mn (ji15) 50) (wrap64 (100 - x6_2))))) l0 (l0.length : Int) x12_1 (rd_L2 l0 x12_1) ((rd_L2 l0 x12_1).length : Int) (wrap64 (x18_2 + 1))) else (none)) = some (r1, r2) := by first | (rw [hji15] at H; exact H) | (simp only [hji15] at H ⊢; exact H)
                        (try rw [hji15] at A12)
                        (try rw [hji15] at A14)
                        have hji15_ : (if 1 < ((rd_T123 (rd_L2 l0 x12_1) x18_2).f2) then ((rd_T123 (rd_L2 l0 x12_1) x18_2).f2) else 1) = ji15 := hji15
                        obtain ⟨ji16, hji16⟩ : ∃ j_ : Int, (mn (ji15) 50) = j_ := ⟨_, rfl⟩
                        replace H : (if x2_2.length < 4398046511104 then (table_cells.l1 k2 (x2_2 ++ [(⟨ji13, mx t107 (ji13), x6_2, mn (ji16) (wrap64 (100 - x6_2))⟩ : S116)]) x3_1 (wrap64 (x6_2 + (mn (ji16) (wrap64 (100 - x6_2))))) l0 (l0.length : Int) x12_1 (rd_L2 l0 x12_1) ((rd_L2 l0 x12_1).length : Int) (wrap64 (x18_2 + 1))) else (none)) = some (r1, r2) := by first | (rw [hji16] at H; exact H) | (simp only [hji16] at H ⊢; exact H)
                        (try rw [hji16] at A12)
                        (try rw [hji16] at A14)
                        have hji16_ : (if 50 < (ji15) then 50 else (ji15)) = ji16 := hji16
                        obtain ⟨ji17, hji17⟩ : ∃ j_ : Int, (mn (ji16) (wrap64 (100 - x6_2))) = j_ := ⟨_, rfl⟩
                        replace H : (if x2_2.length < 4398046511104 then (table_cells.l1 k2 (x2_2 ++ [(⟨ji13, mx t107 (ji13), x6_2, ji17⟩ : S116)]) x3_1 (wrap64 (x6_2 + (ji17))) l0 (l0.length : Int) x12_1 (rd_L2 l0 x12_1) ((rd_L2 l0 x12_1).length : Int) (wrap64 (x18_2 + 1))) else (none)) = some (r1, r2) := by first | (rw [hji17] at H; exact H) | (simp only [hji17] at H ⊢; exact H)
                        (try rw [hji17] at A12)
                        (try rw [hji17] at A14)
                        have hji17_ : (if (wrap64 (100 - x6_2)) < (ji16) then (wrap64 (100 - x6_2)) else (ji16)) = ji17 := hji17
                        obtain ⟨ji18, hji18⟩ : ∃ j_ : Int, (mx t107 (ji13)) = j_ := ⟨_, rfl⟩
                        replace H : (if x2_2.length < 4398046511104 then (table_cells.l1 k2 (x2_2 ++ [(⟨ji13, ji18, x6_2, ji17⟩ : S116)]) x3_1 (wrap64 (x6_2 + (ji17))) l0 (l0.length : Int) x12_1 (rd_L2 l0 x12_1) ((rd_L2 l0 x12_1).length : Int) (wrap64 (x18_2 + 1))) else (none)) = some (r1, r2) := by first | (rw [hji18] at H; exact H) | (simp only [hji18] at H ⊢; exact H)
                        (try rw [hji18] at A12)
                        (try rw [hji18] at A14)
                        have hji18_ : (if t107 < (ji13) then (ji13) else t107) = ji18 := hji18
                        by_cases c19 : x2_2.length < 4398046511104
                        · rw [if_pos c19] at H
                          have LMc19 := Aside0.mk c19
                          clear c19
                          obtain ⟨y109, hy109⟩ : ∃ y_ : List (S116), y_ = (x2_2 ++ [(⟨ji13, ji18, x6_2, ji17⟩ : S116)]) := ⟨_, rfl⟩
                          replace H : (table_cells.l1 k2 y109 x3_1 (wrap64 (x6_2 + (ji17))) l0 (l0.length : Int) x12_1 (rd_L2 l0 x12_1) ((rd_L2 l0 x12_1).length : Int) (wrap64 (x18_2 + 1))) = some (r1, r2) := by first | (rw [hy109]; with_reducible exact H) | (have H2_ := (Option.bind_some _ _).symm.trans H; rw [hy109]; with_reducible exact H2_) | (have H2_ := (Option.bind_some _ _).symm.trans H; with_reducible exact H2_) | with_reducible exact H | (rw [hy109]; exact H) | exact H
                          have Ny109 := Aside0.mk hy109
                          clear hy109
                          have H' := Aside0.mk H
                          clear H
                          have p104 : 0 ≤ (x18_2 : Int) := of_decide_eq_true (by first | (with_reducible assumption) | assumption)
                          have q104 : x18_2 < ((rd_L2 l0 x12_1).length : Int) := of_decide_eq_true (by first | (with_reducible assumption) | assumption)
                          obtain ⟨ad104, e104, hx104_0, hx104_1, hx104_2⟩ := at_T123 HR103_0.out x18_2 p104 q104
                          cases e104
                          replace hx104_0 := (HB.out.cell (World.block_lt_of_cell? w _ hx104_0)).trans hx104_0
                          replace hx104_1 := (HB.out.cell (World.block_lt_of_cell? w _ hx104_1)).trans hx104_1
                          replace hx104_2 := (HB.out.cell (World.block_lt_of_cell? w _ hx104_2)).trans hx104_2
                          replace p104 := eq_true p104
                          replace q104 := eq_true q104
                          try go_wp2_with (first | ((with_reducible refine gate_dst (N := 8) rfl ?_); refine box_event ?hg (N := 8) ?hd (cs := #[.int .i64 0, .int .i64 0, .int .i64 0]) (t := 123) ?hr ?_; (case hd => rfl); (case hg => rfl); (case hr => first | (go_simp; done) | (go_simp; rfl)); intro gb105 hg w20 hbox hb; have n0_ := Aside0.mk (Kd.R_below (by (with_reducible repeat (first | apply Kd.R_alloc | apply Kd.R_drewN | apply Kd.R_drew)); exact HO_2.out) hb); have n1_ := Aside0.mk (below_step (by repeat (first | (with_reducible first | exact HB.out | apply below_alloc | apply pw_below_drewN | apply below_drew1) | exact HB.out)) hb); have n2_ := Aside0.mk (hbox); have n3_ := Aside0.mk ((by rw [hg]; exact (below_size (by repeat (first | (with_reducible first | exact HB.out | apply below_alloc | apply pw_below_drewN | apply below_drew1) | exact HB.out))) : w.heap.size ≤ gb105)); have n4_ := Aside0.mk ((by rw [hg]; exact (below_size (by repeat (first | (with_reducible first | exact HB.out | apply below_alloc | apply pw_below_drewN | apply below_drew1) | exact HB.out))) : w.heap.size ≤ gb105)); clear HO_2; clear HB; have HO_2 := n0_; have HB := n1_; have BK105 := n2_; have GW105 := n3_; have GE105 := n4_; clear n0_ n1_ n2_ n3_ n4_; clear hb hbox hg; have hcz21_0 : w20.cell? ⟨gb105, 0, none⟩ = some (.int .i64 0) := (blk_cell BK105.out 0).trans rfl; have hcz21_1 : w20.cell? ⟨gb105, 1, none⟩ = some (.int .i64 0) := (blk_cell BK105.out 1).trans rfl; have hcz21_2 : w20.cell? ⟨gb105, 2, none⟩ = some (.int .i64 0) := (blk_cell BK105.out 2).trans rfl; have hfz21_0 := blk_frozen BK105.out 0; have hfz21_1 := blk_frozen BK105.out 1; have hfz21_2 := blk_frozen BK105.out 2))
                          have n0_ : Aside0 (Kd.R k116 116 (((w20.setCell ⟨gb105, 0, none⟩ (.int .i64 ((rd_T123 (rd_L2 l0 x12_1) x18_2).f0))).setCell ⟨gb105, 1, none⟩ (.int .i64 ((rd_T123 (rd_L2 l0 x12_1) x18_2).f1))).setCell ⟨gb105, 2, none⟩ (.int .i64 ((rd_T123 (rd_L2 l0 x12_1) x18_2).f2))) w.heap.size (fun _ => True) u2 x2_2) := ⟨by (with_reducible repeat (first | apply Kd.R_alloc | apply Kd.R_drewN | apply Kd.R_drew)); exact Kd.R_mono (Kd.R_far (p := ⟨gb105, 2, none⟩) (Kd.R_far (p := ⟨gb105, 1, none⟩) (Kd.R_far (p := ⟨gb105, 0, none⟩) (Kd.R_types HO_2.out BK105.out (by decide)) (fun _ hk => hk.2) (.int .i64 ((rd_T123 (rd_L2 l0 x12_1) x18_2).f0))) (fun _ hk => hk.2) (.int .i64 ((rd_T123 (rd_L2 l0 x12_1) x18_2).f1))) (fun _ hk => hk.2) (.int .i64 ((rd_T123 (rd_L2 l0 x12_1) x18_2).f2))) (fun _ hk => trivial)⟩
                          have n1_ : Aside0 ((((w20.setCell ⟨gb105, 0, none⟩ (.int .i64 ((rd_T123 (rd_L2 l0 x12_1) x18_2).f0))).setCell ⟨gb105, 1, none⟩ (.int .i64 ((rd_T123 (rd_L2 l0 x12_1) x18_2).f1))).setCell ⟨gb105, 2, none⟩ (.int .i64 ((rd_T123 (rd_L2 l0 x12_1) x18_2).f2))).heap[gb105]? = some (.cells #[.int .i64 ((rd_T123 (rd_L2 l0 x12_1) x18_2).f0), .int .i64 ((rd_T123 (rd_L2 l0 x12_1) x18_2).f1), .int .i64 ((rd_T123 (rd_L2 l0 x12_1) x18_2).f2)] 123 (0, 0))) := ⟨by (with_reducible repeat (first | refine blk_drewN ?_ _ | refine blk_drew ?_ | refine blk_alloc ?_ _)); refine blk_put (cs := #[.int .i64 ((rd_T123 (rd_L2 l0 x12_1) x18_2).f0), .int .i64 ((rd_T123 (rd_L2 l0 x12_1) x18_2).f1), .int .i64 0]) ?_ 2 _ rfl; (with_reducible repeat (first | refine blk_drewN ?_ _ | refine blk_drew ?_ | refine blk_alloc ?_ _)); refine blk_put (cs := #[.int .i64 ((rd_T123 (rd_L2 l0 x12_1) x18_2).f0), .int .i64 0, .int .i64 0]) ?_ 1 _ rfl; (with_reducible repeat (first | refine blk_drewN ?_ _ | refine blk_drew ?_ | refine blk_alloc ?_ _)); refine blk_put (cs := #[.int .i64 0, .int .i64 0, .int .i64 0]) ?_ 0 _ rfl; (with_reducible repeat (first | refine blk_drewN ?_ _ | refine blk_drew ?_ | refine blk_alloc ?_ _)); exact BK105.out⟩
                          have n2_ : Aside0 (Below w.heap.size w (((w20.setCell ⟨gb105, 0, none⟩ (.int .i64 ((rd_T123 (rd_L2 l0 x12_1) x18_2).f0))).setCell ⟨gb105, 1, none⟩ (.int .i64 ((rd_T123 (rd_L2 l0 x12_1) x18_2).f1))).setCell ⟨gb105, 2, none⟩ (.int .i64 ((rd_T123 (rd_L2 l0 x12_1) x18_2).f2)))) := ⟨by repeat (first | (with_reducible first | exact HB.out | apply below_alloc | apply pw_below_drewN | apply below_drew1 | refine below_set ?_ GE105.out) | exact HB.out)⟩
                          (try clear HO_2)
                          (try clear BK105)
                          (try clear HB)
                          generalize (((w20.setCell ⟨gb105, 0, none⟩ (.int .i64 ((rd_T123 (rd_L2 l0 x12_1) x18_2).f0))).setCell ⟨gb105, 1, none⟩ (.int .i64 ((rd_T123 (rd_L2 l0 x12_1) x18_2).f1))).setCell ⟨gb105, 2, none⟩ (.int .i64 ((rd_T123 (rd_L2 l0 x12_1) x18_2).f2))) = w22 at n0_ n1_ n2_ ⊢
                          have HO_2 := n0_
                          have BK105 := n1_
                          have HB := n2_
                          clear n0_ n1_ n2_
                          have n0_ := Aside0.mk (Kd.R_drew HO_2.out)
                          have n1_ := Aside0.mk (blk_drew BK105.out)
                          have n2_ := Aside0.mk (below_drew1 HB.out)
                          clear HO_2
                          clear BK105
                          clear HB
                          have HO_2 := n0_
                          have BK105 := n1_
                          have HB := n2_
                          clear n0_ n1_ n2_
                          refine start_ (n := 17) (S := fun w' => w'.cell? ⟨gb105, 0, none⟩ = some (.int .i64 ((rd_T123 (rd_L2 l0 x12_1) x18_2).f0)) ∧ w'.cell? ⟨gb105, 1, none⟩ = some (.int .i64 ((rd_T123 (rd_L2 l0 x12_1) x18_2).f1)) ∧ w'.cell? ⟨gb105, 2, none⟩ = some (.int .i64 ((rd_T123 (rd_L2 l0 x12_1) x18_2).f2))) (ds := []) #[false, false, false, false, false, false, false, false, false, false, false, false, false, false, false, false, false] (by kernel_rfl) rfl rfl ⟨(blk_cell BK105.out 0).trans rfl, (blk_cell BK105.out 1).trans rfl, (blk_cell BK105.out 2).trans rfl⟩ (fun hHeld => ?_); refine with_tabW table_cells.tab9 table_cells.bits9 (fun HT_ HW_ => ?_)
                          generalize w22.drew = w23 at HO_2 BK105 HB hHeld ⊢
                          refine pure_ (i := 0) (N := some 24) (v := ?_) (a' := ?_) #[true, false, false, false, false, false, false, false, false, false, false, false, false, false, false, false, false] rfl rfl (any_of HT_.out (by kernel_rfl)) (fun _ _ _ h => h) (Or.inl ⟨by rfl, ?_⟩) ?_ ?_
                          rotate_left
                          · intro w'
                            go_simp
                            with_reducible rfl
                          rotate_left
                          · simp only [Act.put, List.setIfInBounds_toArray, List.set_cons_zero, List.set_cons_succ, i64_w, i32_w]
                            rfl
                          refine pure_ (i := 4) (N := some 28) (v := ?_) (a' := ?_) #[true, false, false, false, true, false, false, false, false, false, false, false, false, false, false, false, false] rfl rfl (any_of HT_.out (by kernel_rfl)) (fun _ _ _ h => h) (Or.inl ⟨by rfl, ?_⟩) ?_ ?_
                          rotate_left
                          · intro w'
                            go_simp
                            with_reducible rfl
                          rotate_left
                          · simp only [Act.put, List.setIfInBounds_toArray, List.set_cons_zero, List.set_cons_succ, i64_w, i32_w]
                            rfl
                          refine pure_ (i := 7) (N := some 31) (v := ?_) (a' := ?_) #[true, false, false, false, true, false, false, true, false, false, false, false, false, false, false, false, false] rfl rfl (any_of HT_.out (by kernel_rfl)) (fun _ _ _ h => h) (Or.inl ⟨by rfl, ?_⟩) ?_ ?_
                          rotate_left
                          · intro w'
                            go_simp
                            with_reducible rfl
                          rotate_left
                          · simp only [Act.put, List.setIfInBounds_toArray, List.set_cons_zero, List.set_cons_succ, i64_w, i32_w]
                            rfl
                          refine pure_ (i := 8) (N := some 32) (v := ?_) (a' := ?_) #[true, false, false, false, true, false, false, true, true, false, false, false, false, false, false, false, false] rfl rfl (any_of HT_.out (by kernel_rfl)) (fun _ _ _ h => h) (Or.inl ⟨by rfl, ?_⟩) ?_ ?_
                          rotate_left
                          · intro w'
                            go_simp
                            with_reducible rfl
                          rotate_left
                          · simp only [Act.put, List.setIfInBounds_toArray, List.set_cons_zero, List.set_cons_succ, i64_w, i32_w]
                            rfl
                          refine pure_ (i := 11) (N := some 35) (v := ?_) (a' := ?_) #[true, false, false, false, true, false, false, true, true, false, false, true, false, false, false, false, false] rfl rfl (any_of HT_.out (by kernel_rfl)) (fun _ _ _ h => h) (Or.inl ⟨by rfl, ?_⟩) ?_ ?_
                          rotate_left
                          · intro w'
                            go_simp
                            with_reducible rfl
                          rotate_left
                          · simp only [Act.put, List.setIfInBounds_toArray, List.set_cons_zero, List.set_cons_succ, i64_w, i32_w]
                            rfl
                          refine pure_ (i := 12) (N := some 36) (v := ?_) (a' := ?_) #[true, false, false, false, true, false, false, true, true, false, false, true, true, false, false, false, false] rfl rfl (any_of HT_.out (by kernel_rfl)) (fun _ _ _ h => h) (Or.inl ⟨by rfl, ?_⟩) ?_ ?_
                          rotate_left
                          · intro w'
                            go_simp
                            with_reducible rfl
                          rotate_left
                          · simp only [Act.put, List.setIfInBounds_toArray, List.set_cons_zero, List.set_cons_succ, i64_w, i32_w]
                            rfl
                          refine take_ (i := 1) (N := some 25) (v := ?_) (a' := ?_) #[true, true, false, false, true, false, false, true, true, false, false, true, true, false, false, false, false] rfl rfl (take_ofW HT_.out HW_.out (by kernel_rfl)) (fun _ _ _ h => h) (Or.inl ⟨by rfl, ?_⟩) hHeld ?_ ?_
                          rotate_left
                          · rintro w' ⟨s0, s1, s2⟩
                            go_simp
                            with_reducible rfl
                          rotate_left
                          · simp only [Act.put, List.setIfInBounds_toArray, List.set_cons_zero, List.set_cons_succ, i64_w, i32_w]
                            rfl
                          refine take_ (i := 5) (N := some 29) (v := ?_) (a' := ?_) #[true, true, false, false, true, true, false, true, true, false, false, true, true, false, false, false, false] rfl rfl (take_ofW HT_.out HW_.out (by kernel_rfl)) (fun _ _ _ h => h) (Or.inl ⟨by rfl, ?_⟩) hHeld ?_ ?_
                          rotate_left
                          · rintro w' ⟨s0, s1, s2⟩
                            go_simp
                            with_reducible rfl
                          rotate_left
                          · simp only [Act.put, List.setIfInBounds_toArray, List.set_cons_zero, List.set_cons_succ, i64_w, i32_w]
                            rfl
                          refine take_ (i := 9) (N := some 33) (v := ?_) (a' := ?_) #[true, true, false, false, true, true, false, true, true, true, false, true, true, false, false, false, false] rfl rfl (take_ofW HT_.out HW_.out (by kernel_rfl)) (fun _ _ _ h => h) (Or.inl ⟨by rfl, ?_⟩) hHeld ?_ ?_
                          rotate_left
                          · rintro w' ⟨s0, s1, s2⟩
                            go_simp
                            with_reducible rfl
                          rotate_left
                          · simp only [Act.put, List.setIfInBounds_toArray, List.set_cons_zero, List.set_cons_succ, i64_w, i32_w]
                            rfl
                          refine pure_ (i := 10) (N := some 34) (v := ?_) (a' := ?_) #[true, true, false, false, true, true, false, true, true, true, true, true, true, false, false, false, false] rfl rfl (any_of HT_.out (by kernel_rfl)) (fun _ _ _ h => h) (Or.inl ⟨by rfl, ?_⟩) ?_ ?_
                          rotate_left
                          · intro w'
                            go_simp
                            with_reducible rfl
                          rotate_left
                          · simp only [Act.put, List.setIfInBounds_toArray, List.set_cons_zero, List.set_cons_succ, i64_w, i32_w]
                            rfl
                          refine pure_ (i := 13) (N := some 37) (v := ?_) (a' := ?_) #[true, true, false, false, true, true, false, true, true, true, true, true, true, true, false, false, false] rfl rfl (any_of HT_.out (by kernel_rfl)) (fun _ _ _ h => h) (Or.inl ⟨by rfl, ?_⟩) ?_ ?_
                          rotate_left
                          · intro w'
                            go_simp
                            with_reducible rfl
                          rotate_left
                          · simp only [Act.put, List.setIfInBounds_toArray, List.set_cons_zero, List.set_cons_succ, i64_w, i32_w]
                            rfl
                          refine join_ (σ := Nat) 1 #[true, true, true, true, true, true, true, true, true, true, true, true, true, true, true, true, false] (fun s_ => [(26, .int .i64 t106), (30, .int .i64 t107), (9, .pointer (some ⟨s_, 0, none⟩)), (27, .int .i64 ji13), (38, .agg #[.int .i64 ji13, .int .i64 t107, .int .i64 x6_2, .int .i64 ji17])]) (fun s_ w' => (w'.cell? ⟨gb105, 0, none⟩ = some (.int .i64 ((rd_T123 (rd_L2 l0 x12_1) x18_2).f0)) ∧ w'.cell? ⟨gb105, 1, none⟩ = some (.int .i64 ((rd_T123 (rd_L2 l0 x12_1) x18_2).f1)) ∧ w'.cell? ⟨gb105, 2, none⟩ = some (.int .i64 ((rd_T123 (rd_L2 l0 x12_1) x18_2).f2))) ∧ (Kd.R k116 116 w' w.heap.size (fun k_ => k_ ≠ s_) u2 x2_2) ∧ (w'.heap[gb105]? = some (.cells #[.int .i64 ((rd_T123 (rd_L2 l0 x12_1) x18_2).f0), .int .i64 ((rd_T123 (rd_L2 l0 x12_1) x18_2).f1), .int .i64 ((rd_T123 (rd_L2 l0 x12_1) x18_2).f2)] 123 (0, 0))) ∧ (w'.heap[s_]? = some (.cells #[.int .i64 0, .int .i64 0, .int .i64 0, .int .i64 0] 116 (0, 0))) ∧ (w.heap.size ≤ s_) ∧ (w.heap.size ≤ s_) ∧ (gb105 ≠ s_) ∧ (s_ ≠ gb105) ∧ (Below w.heap.size w w')) ?_ ?_
                          rotate_left
                          · intro hCont
                            refine two_ (i := 2) (j := 15) (Ni := some 26) (Nj := some 9) #[true, true, true, false, true, true, false, true, true, true, true, true, true, true, false, false, false] #[true, true, false, false, true, true, false, true, true, true, true, true, true, true, false, true, false] rfl rfl rfl rfl (two_of HT_.out (by kernel_rfl)) (by decide) (by decide) (fun K hK => ?_) (fun K hK => ?_)
                            · skip
                              refine goes_ Try.func51 (by kernel_rfl) rfl #[.int .i64 ((rd_T123 (rd_L2 l0 x12_1) x18_2).f0)] (by rfl) rfl rfl (by (try simp only [List.map_toArray, List.map_cons, List.map_nil]); first | done | rfl | (simp only [List.length_drop, List.length_take]; rfl)) ?_
                              with_reducible refine (fix_Cut.calls ((rd_T123 (rd_L2 l0 x12_1) x18_2).f0) t106 _ A12.out).mono ?_
                              rintro e w24 ⟨rfl, hb⟩
                              refine ⟨_, rfl, ?_⟩
                              have n0_ := Aside0.mk (Kd.R_below (by (with_reducible repeat (first | apply Kd.R_alloc | apply Kd.R_drewN | apply Kd.R_drew)); exact HO_2.out) hb)
                              have n1_ := Aside0.mk (blk_below (g := gb105) (o := .cells #[.int .i64 ((rd_T123 (rd_L2 l0 x12_1) x18_2).f0), .int .i64 ((rd_T123 (rd_L2 l0 x12_1) x18_2).f1), .int .i64 ((rd_T123 (rd_L2 l0 x12_1) x18_2).f2)] 123 (0, 0)) (by (with_reducible repeat (first | refine blk_drewN ?_ _ | refine blk_drew ?_ | refine blk_alloc ?_ _)); exact BK105.out) hb)
                              have n2_ := Aside0.mk (below_step (by repeat (first | (with_reducible first | exact HB.out | apply below_alloc | apply pw_below_drewN | apply below_drew1 | refine below_set ?_ GE105.out) | exact HB.out)) hb)
                              clear HO_2
                              clear BK105
                              clear HB
                              have HO_2 := n0_
                              have BK105 := n1_
                              have HB := n2_
                              clear n0_ n1_ n2_
                              (try clear hb)
                              (try clear hb2)
                              (try clear hk)
                              (try clear hi)
                              refine hK.out _ _ ⟨(blk_cell BK105.out 0).trans rfl, (blk_cell BK105.out 1).trans rfl, (blk_cell BK105.out 2).trans rfl⟩ (fun hHeld => ?_)
                              clear hK K
                              refine norm_ (a' := ?_) ?_ ?_
                              rotate_left
                              · show Act.put _ (some 26) _ = _
                                simp only [Act.put, List.setIfInBounds_toArray, List.set_cons_zero, List.set_cons_succ, i64_w, i32_w]
                                rfl
                              refine pure_ (i := 3) (N := some 27) (v := ?_) (a' := ?_) #[true, true, true, true, true, true, false, true, true, true, true, true, true, true, false, false, false] rfl rfl (any_of HT_.out (by kernel_rfl)) (fun _ _ _ h => h) (Or.inl ⟨by rfl, ?_⟩) ?_ ?_
                              rotate_left
                              · intro w'
                                go_simp
                                with_reducible rfl
                              rotate_left
                              · simp only [Act.put, List.setIfInBounds_toArray, List.set_cons_zero, List.set_cons_succ, i64_w, i32_w]
                                rfl
                              refine two_ (i := 6) (j := 15) (Ni := some 30) (Nj := some 9) #[true, true, true, true, true, true, true, true, true, true, true, true, true, true, false, false, false] #[true, true, true, true, true, true, false, true, true, true, true, true, true, true, false, true, false] rfl rfl rfl rfl (two_of HT_.out (by kernel_rfl)) (by decide) (by decide) (fun K hK => ?_) (fun K hK => ?_)
                              · skip
                                refine goes_ Try.func51 (by kernel_rfl) rfl #[.int .i64 ((rd_T123 (rd_L2 l0 x12_1) x18_2).f1)] (by rfl) rfl rfl (by (try simp only [List.map_toArray, List.map_cons, List.map_nil]); first | done | rfl | (simp only [List.length_drop, List.length_take]; rfl)) ?_
                                with_reducible refine (fix_Cut.calls ((rd_T123 (rd_L2 l0 x12_1) x18_2).f1) t107 _ A14.out).mono ?_
                                rintro e w25 ⟨rfl, hb⟩
                                refine ⟨_, rfl, ?_⟩
                                have n0_ := Aside0.mk (Kd.R_below (by (with_reducible repeat (first | apply Kd.R_alloc | apply Kd.R_drewN | apply Kd.R_drew)); exact HO_2.out) hb)
                                have n1_ := Aside0.mk (blk_below (g := gb105) (o := .cells #[.int .i64 ((rd_T123 (rd_L2 l0 x12_1) x18_2).f0), .int .i64 ((rd_T123 (rd_L2 l0 x12_1) x18_2).f1), .int .i64 ((rd_T123 (rd_L2 l0 x12_1) x18_2).f2)] 123 (0, 0)) (by (with_reducible repeat (first | refine blk_drewN ?_ _ | refine blk_drew ?_ | refine blk_alloc ?_ _)); exact BK105.out) hb)
                                have n2_ := Aside0.mk (below_step (by repeat (first | (with_reducible first | exact HB.out | apply below_alloc | apply pw_below_drewN | apply below_drew1 | refine below_set ?_ GE105.out) | exact HB.out)) hb)
                                clear HO_2
                                clear BK105
                                clear HB
                                have HO_2 := n0_
                                have BK105 := n1_
                                have HB := n2_
                                clear n0_ n1_ n2_
                                (try clear hb)
                                (try clear hb2)
                                (try clear hk)
                                (try clear hi)
                                refine hK.out _ _ ⟨(blk_cell BK105.out 0).trans rfl, (blk_cell BK105.out 1).trans rfl, (blk_cell BK105.out 2).trans rfl⟩ (fun hHeld => ?_)
                                clear hK K
                                refine norm_ (a' := ?_) ?_ ?_
                                rotate_left
                                · show Act.put _ (some 30) _ = _
                                  simp only [Act.put, List.setIfInBounds_toArray, List.set_cons_zero, List.set_cons_succ, i64_w, i32_w]
                                  rfl
                                refine pure_ (i := 14) (N := some 38) (v := ?_) (a' := ?_) #[true, true, true, true, true, true, true, true, true, true, true, true, true, true, true, false, false] rfl rfl (any_of HT_.out (by kernel_rfl)) (fun _ _ _ h => h) (Or.inl ⟨by rfl, ?_⟩) ?_ ?_
                                rotate_left
                                · intro w'
                                  go_simp
                                  with_reducible rfl
                                rotate_left
                                · simp only [Act.put, List.setIfInBounds_toArray, List.set_cons_zero, List.set_cons_succ, i64_w, i32_w]
                                  rfl
                                refine one_ (i := 15) (N := some 9) #[true, true, true, true, true, true, true, true, true, true, true, true, true, true, true, true, false] rfl rfl (one_of HT_.out (by kernel_rfl)) (by decide) (fun K hK => ?_)
                                refine box_step ?hg (N := 9) ?hd (cs := #[.int .i64 0, .int .i64 0, .int .i64 0, .int .i64 0]) (t := 116) ?hr ?_; (case hd => rfl); (case hg => rfl); (case hr => first | (go_simp; done) | (go_simp; rfl))
                                intro gb108 hg w26 hbox hb
                                have n0_ := Aside0.mk (Kd.R_below (Kd.R_elderB (by (with_reducible repeat (first | apply Kd.R_alloc | apply Kd.R_drewN | apply Kd.R_drew)); exact HO_2.out) gb108 (Nat.le_of_eq hg.symm)) hb)
                                have n1_ := Aside0.mk (blk_below (g := gb105) (o := .cells #[.int .i64 ((rd_T123 (rd_L2 l0 x12_1) x18_2).f0), .int .i64 ((rd_T123 (rd_L2 l0 x12_1) x18_2).f1), .int .i64 ((rd_T123 (rd_L2 l0 x12_1) x18_2).f2)] 123 (0, 0)) (by (with_reducible repeat (first | refine blk_drewN ?_ _ | refine blk_drew ?_ | refine blk_alloc ?_ _)); exact BK105.out) hb)
                                have n2_ := Aside0.mk (below_step (by repeat (first | (with_reducible first | exact HB.out | apply below_alloc | apply pw_below_drewN | apply below_drew1 | refine below_set ?_ GE105.out) | exact HB.out)) hb)
                                have n3_ := Aside0.mk (hbox)
                                have n4_ := Aside0.mk ((by rw [hg]; exact (below_size (by repeat (first | (with_reducible first | exact HB.out | apply below_alloc | apply pw_below_drewN | apply below_drew1 | refine below_set ?_ GE105.out) | exact HB.out))) : w.heap.size ≤ gb108))
                                have n5_ := Aside0.mk ((by rw [hg]; exact (below_size (by repeat (first | (with_reducible first | exact HB.out | apply below_alloc | apply pw_below_drewN | apply below_drew1 | refine below_set ?_ GE105.out) | exact HB.out))) : w.heap.size ≤ gb108))
                                have n6_ := Aside0.mk ((by rw [hg]; exact Nat.ne_of_lt (blk_lt (g := gb105) (o := .cells #[.int .i64 ((rd_T123 (rd_L2 l0 x12_1) x18_2).f0), .int .i64 ((rd_T123 (rd_L2 l0 x12_1) x18_2).f1), .int .i64 ((rd_T123 (rd_L2 l0 x12_1) x18_2).f2)] 123 (0, 0)) (by (with_reducible repeat (first | refine blk_drewN ?_ _ | refine blk_drew ?_ | refine blk_alloc ?_ _)); exact BK105.out)) : gb105 ≠ gb108))
                                have n7_ := Aside0.mk ((by rw [hg]; exact Nat.ne_of_gt (blk_lt (g := gb105) (o := .cells #[.int .i64 ((rd_T123 (rd_L2 l0 x12_1) x18_2).f0), .int .i64 ((rd_T123 (rd_L2 l0 x12_1) x18_2).f1), .int .i64 ((rd_T123 (rd_L2 l0 x12_1) x18_2).f2)] 123 (0, 0)) (by (with_reducible repeat (first | refine blk_drewN ?_ _ | refine blk_drew ?_ | refine blk_alloc ?_ _)); exact BK105.out)) : gb108 ≠ gb105))
                                clear HO_2
                                clear BK105
                                clear HB
                                have HO_2 := n0_
                                have BK105 := n1_
                                have HB := n2_
                                have BK108 := n3_
                                have GW108 := n4_
                                have GE108 := n5_
                                have NB105_108 := n6_
                                have NB108_105 := n7_
                                clear n0_ n1_ n2_ n3_ n4_ n5_ n6_ n7_
                                clear hb hbox hg
                                refine hK.out _ _ ⟨(blk_cell BK105.out 0).trans rfl, (blk_cell BK105.out 1).trans rfl, (blk_cell BK105.out 2).trans rfl⟩ (fun hHeld => ?_)
                                clear hK K
                                refine norm_ (a' := ?_) ?_ ?_
                                rotate_left
                                · show Act.put _ (some 9) _ = _
                                  simp only [Act.put, List.setIfInBounds_toArray, List.set_cons_zero, List.set_cons_succ, i64_w, i32_w]
                                  rfl
                                exact norm_ (by simp only [putAll, Act.put, List.setIfInBounds_toArray, List.set_cons_zero, List.set_cons_succ]) (hCont (gb108) _ ⟨hHeld, (by (with_reducible repeat (first | apply Kd.R_alloc | apply Kd.R_drewN | apply Kd.R_drew)); exact Kd.R_mono HO_2.out (fun _ hk => hk.2)), (by (with_reducible repeat (first | refine blk_drewN ?_ _ | refine blk_drew ?_ | refine blk_alloc ?_ _)); exact BK105.out), (by (with_reducible repeat (first | refine blk_drewN ?_ _ | refine blk_drew ?_ | refine blk_alloc ?_ _)); exact BK108.out), GW108.out, GE108.out, NB105_108.out, NB108_105.out, (by repeat (first | (with_reducible first | exact HB.out | apply below_alloc | apply pw_below_drewN | apply below_drew1 | refine below_set ?_ GE105.out | refine below_set ?_ GE108.out) | exact HB.out))⟩)
                              · skip
                                refine box_step ?hg (N := 9) ?hd (cs := #[.int .i64 0, .int .i64 0, .int .i64 0, .int .i64 0]) (t := 116) ?hr ?_; (case hd => rfl); (case hg => rfl); (case hr => first | (go_simp; done) | (go_simp; rfl))
                                intro gb108 hg w25 hbox hb
                                have n0_ := Aside0.mk (Kd.R_below (Kd.R_elderB (by (with_reducible repeat (first | apply Kd.R_alloc | apply Kd.R_drewN | apply Kd.R_drew)); exact HO_2.out) gb108 (Nat.le_of_eq hg.symm)) hb)
                                have n1_ := Aside0.mk (blk_below (g := gb105) (o := .cells #[.int .i64 ((rd_T123 (rd_L2 l0 x12_1) x18_2).f0), .int .i64 ((rd_T123 (rd_L2 l0 x12_1) x18_2).f1), .int .i64 ((rd_T123 (rd_L2 l0 x12_1) x18_2).f2)] 123 (0, 0)) (by (with_reducible repeat (first | refine blk_drewN ?_ _ | refine blk_drew ?_ | refine blk_alloc ?_ _)); exact BK105.out) hb)
                                have n2_ := Aside0.mk (below_step (by repeat (first | (with_reducible first | exact HB.out | apply below_alloc | apply pw_below_drewN | apply below_drew1 | refine below_set ?_ GE105.out) | exact HB.out)) hb)
                                have n3_ := Aside0.mk (hbox)
                                have n4_ := Aside0.mk ((by rw [hg]; exact (below_size (by repeat (first | (with_reducible first | exact HB.out | apply below_alloc | apply pw_below_drewN | apply below_drew1 | refine below_set ?_ GE105.out) | exact HB.out))) : w.heap.size ≤ gb108))
                                have n5_ := Aside0.mk ((by rw [hg]; exact (below_size (by repeat (first | (with_reducible first | exact HB.out | apply below_alloc | apply pw_below_drewN | apply below_drew1 | refine below_set ?_ GE105.out) | exact HB.out))) : w.heap.size ≤ gb108))
                                have n6_ := Aside0.mk ((by rw [hg]; exact Nat.ne_of_lt (blk_lt (g := gb105) (o := .cells #[.int .i64 ((rd_T123 (rd_L2 l0 x12_1) x18_2).f0), .int .i64 ((rd_T123 (rd_L2 l0 x12_1) x18_2).f1), .int .i64 ((rd_T123 (rd_L2 l0 x12_1) x18_2).f2)] 123 (0, 0)) (by (with_reducible repeat (first | refine blk_drewN ?_ _ | refine blk_drew ?_ | refine blk_alloc ?_ _)); exact BK105.out)) : gb105 ≠ gb108))
                                have n7_ := Aside0.mk ((by rw [hg]; exact Nat.ne_of_gt (blk_lt (g := gb105) (o := .cells #[.int .i64 ((rd_T123 (rd_L2 l0 x12_1) x18_2).f0), .int .i64 ((rd_T123 (rd_L2 l0 x12_1) x18_2).f1), .int .i64 ((rd_T123 (rd_L2 l0 x12_1) x18_2).f2)] 123 (0, 0)) (by (with_reducible repeat (first | refine blk_drewN ?_ _ | refine blk_drew ?_ | refine blk_alloc ?_ _)); exact BK105.out)) : gb108 ≠ gb105))
                                clear HO_2
                                clear BK105
                                clear HB
                                have HO_2 := n0_
                                have BK105 := n1_
                                have HB := n2_
                                have BK108 := n3_
                                have GW108 := n4_
                                have GE108 := n5_
                                have NB105_108 := n6_
                                have NB108_105 := n7_
                                clear n0_ n1_ n2_ n3_ n4_ n5_ n6_ n7_
                                clear hb hbox hg
                                refine hK.out _ _ ⟨(blk_cell BK105.out 0).trans rfl, (blk_cell BK105.out 1).trans rfl, (blk_cell BK105.out 2).trans rfl⟩ (fun hHeld => ?_)
                                clear hK K
                                refine norm_ (a' := ?_) ?_ ?_
                                rotate_left
                                · show Act.put _ (some 9) _ = _
                                  simp only [Act.put, List.setIfInBounds_toArray, List.set_cons_zero, List.set_cons_succ, i64_w, i32_w]
                                  rfl
                                refine one_ (i := 6) (N := some 30) #[true, true, true, true, true, true, true, true, true, true, true, true, true, true, false, true, false] rfl rfl (one_of HT_.out (by kernel_rfl)) (by decide) (fun K hK => ?_)
                                refine goes_ Try.func51 (by kernel_rfl) rfl #[.int .i64 ((rd_T123 (rd_L2 l0 x12_1) x18_2).f1)] (by rfl) rfl rfl (by (try simp only [List.map_toArray, List.map_cons, List.map_nil]); first | done | rfl | (simp only [List.length_drop, List.length_take]; rfl)) ?_
                                with_reducible refine (fix_Cut.calls ((rd_T123 (rd_L2 l0 x12_1) x18_2).f1) t107 _ A14.out).mono ?_
                                rintro e w26 ⟨rfl, hb⟩
                                refine ⟨_, rfl, ?_⟩
                                have n0_ := Aside0.mk (Kd.R_below (by (with_reducible repeat (first | apply Kd.R_alloc | apply Kd.R_drewN | apply Kd.R_drew)); exact HO_2.out) hb)
                                have n1_ := Aside0.mk (blk_below (g := gb105) (o := .cells #[.int .i64 ((rd_T123 (rd_L2 l0 x12_1) x18_2).f0), .int .i64 ((rd_T123 (rd_L2 l0 x12_1) x18_2).f1), .int .i64 ((rd_T123 (rd_L2 l0 x12_1) x18_2).f2)] 123 (0, 0)) (by (with_reducible repeat (first | refine blk_drewN ?_ _ | refine blk_drew ?_ | refine blk_alloc ?_ _)); exact BK105.out) hb)
                                have n2_ := Aside0.mk (blk_below (g := gb108) (o := .cells #[.int .i64 0, .int .i64 0, .int .i64 0, .int .i64 0] 116 (0, 0)) (by (with_reducible repeat (first | refine blk_drewN ?_ _ | refine blk_drew ?_ | refine blk_alloc ?_ _)); exact BK108.out) hb)
                                have n3_ := Aside0.mk (below_step (by repeat (first | (with_reducible first | exact HB.out | apply below_alloc | apply pw_below_drewN | apply below_drew1 | refine below_set ?_ GE105.out | refine below_set ?_ GE108.out) | exact HB.out)) hb)
                                clear HO_2
                                clear BK105
                                clear BK108
                                clear HB
                                have HO_2 := n0_
                                have BK105 := n1_
                                have BK108 := n2_
                                have HB := n3_
                                clear n0_ n1_ n2_ n3_
                                (try clear hb)
                                (try clear hb2)
                                (try clear hk)
                                (try clear hi)
                                refine hK.out _ _ ⟨(blk_cell BK105.out 0).trans rfl, (blk_cell BK105.out 1).trans rfl, (blk_cell BK105.out 2).trans rfl⟩ (fun hHeld => ?_)
                                clear hK K
                                refine norm_ (a' := ?_) ?_ ?_
                                rotate_left
                                · show Act.put _ (some 30) _ = _
                                  simp only [Act.put, List.setIfInBounds_toArray, List.set_cons_zero, List.set_cons_succ, i64_w, i32_w]
                                  rfl
                                refine pure_ (i := 14) (N := some 38) (v := ?_) (a' := ?_) #[true, true, true, true, true, true, true, true, true, true, true, true, true, true, true, true, false] rfl rfl (any_of HT_.out (by kernel_rfl)) (fun _ _ _ h => h) (Or.inl ⟨by rfl, ?_⟩) ?_ ?_
                                rotate_left
                                · intro w'
                                  go_simp
                                  with_reducible rfl
                                rotate_left
                                · simp only [Act.put, List.setIfInBounds_toArray, List.set_cons_zero, List.set_cons_succ, i64_w, i32_w]
                                  rfl
                                exact norm_ (by simp only [putAll, Act.put, List.setIfInBounds_toArray, List.set_cons_zero, List.set_cons_succ]) (hCont (gb108) _ ⟨hHeld, (by (with_reducible repeat (first | apply Kd.R_alloc | apply Kd.R_drewN | apply Kd.R_drew)); exact Kd.R_mono HO_2.out (fun _ hk => hk.2)), (by (with_reducible repeat (first | refine blk_drewN ?_ _ | refine blk_drew ?_ | refine blk_alloc ?_ _)); exact BK105.out), (by (with_reducible repeat (first | refine blk_drewN ?_ _ | refine blk_drew ?_ | refine blk_alloc ?_ _)); exact BK108.out), GW108.out, GE108.out, NB105_108.out, NB108_105.out, (by repeat (first | (with_reducible first | exact HB.out | apply below_alloc | apply pw_below_drewN | apply below_drew1 | refine below_set ?_ GE105.out | refine below_set ?_ GE108.out) | exact HB.out))⟩)
                            · skip
                              refine box_step ?hg (N := 9) ?hd (cs := #[.int .i64 0, .int .i64 0, .int .i64 0, .int .i64 0]) (t := 116) ?hr ?_; (case hd => rfl); (case hg => rfl); (case hr => first | (go_simp; done) | (go_simp; rfl))
                              intro gb108 hg w24 hbox hb
                              have n0_ := Aside0.mk (Kd.R_below (Kd.R_elderB (by (with_reducible repeat (first | apply Kd.R_alloc | apply Kd.R_drewN | apply Kd.R_drew)); exact HO_2.out) gb108 (Nat.le_of_eq hg.symm)) hb)
                              have n1_ := Aside0.mk (blk_below (g := gb105) (o := .cells #[.int .i64 ((rd_T123 (rd_L2 l0 x12_1) x18_2).f0), .int .i64 ((rd_T123 (rd_L2 l0 x12_1) x18_2).f1), .int .i64 ((rd_T123 (rd_L2 l0 x12_1) x18_2).f2)] 123 (0, 0)) (by (with_reducible repeat (first | refine blk_drewN ?_ _ | refine blk_drew ?_ | refine blk_alloc ?_ _)); exact BK105.out) hb)
                              have n2_ := Aside0.mk (below_step (by repeat (first | (with_reducible first | exact HB.out | apply below_alloc | apply pw_below_drewN | apply below_drew1 | refine below_set ?_ GE105.out) | exact HB.out)) hb)
                              have n3_ := Aside0.mk (hbox)
                              have n4_ := Aside0.mk ((by rw [hg]; exact (below_size (by repeat (first | (with_reducible first | exact HB.out | apply below_alloc | apply pw_below_drewN | apply below_drew1 | refine below_set ?_ GE105.out) | exact HB.out))) : w.heap.size ≤ gb108))
                              have n5_ := Aside0.mk ((by rw [hg]; exact (below_size (by repeat (first | (with_reducible first | exact HB.out | apply below_alloc | apply pw_below_drewN | apply below_drew1 | refine below_set ?_ GE105.out) | exact HB.out))) : w.heap.size ≤ gb108))
                              have n6_ := Aside0.mk ((by rw [hg]; exact Nat.ne_of_lt (blk_lt (g := gb105) (o := .cells #[.int .i64 ((rd_T123 (rd_L2 l0 x12_1) x18_2).f0), .int .i64 ((rd_T123 (rd_L2 l0 x12_1) x18_2).f1), .int .i64 ((rd_T123 (rd_L2 l0 x12_1) x18_2).f2)] 123 (0, 0)) (by (with_reducible repeat (first | refine blk_drewN ?_ _ | refine blk_drew ?_ | refine blk_alloc ?_ _)); exact BK105.out)) : gb105 ≠ gb108))
                              have n7_ := Aside0.mk ((by rw [hg]; exact Nat.ne_of_gt (blk_lt (g := gb105) (o := .cells #[.int .i64 ((rd_T123 (rd_L2 l0 x12_1) x18_2).f0), .int .i64 ((rd_T123 (rd_L2 l0 x12_1) x18_2).f1), .int .i64 ((rd_T123 (rd_L2 l0 x12_1) x18_2).f2)] 123 (0, 0)) (by (with_reducible repeat (first | refine blk_drewN ?_ _ | refine blk_drew ?_ | refine blk_alloc ?_ _)); exact BK105.out)) : gb108 ≠ gb105))
                              clear HO_2
                              clear BK105
                              clear HB
                              have HO_2 := n0_
                              have BK105 := n1_
                              have HB := n2_
                              have BK108 := n3_
                              have GW108 := n4_
                              have GE108 := n5_
                              have NB105_108 := n6_
                              have NB108_105 := n7_
                              clear n0_ n1_ n2_ n3_ n4_ n5_ n6_ n7_
                              clear hb hbox hg
                              refine hK.out _ _ ⟨(blk_cell BK105.out 0).trans rfl, (blk_cell BK105.out 1).trans rfl, (blk_cell BK105.out 2).trans rfl⟩ (fun hHeld => ?_)
                              clear hK K
                              refine norm_ (a' := ?_) ?_ ?_
                              rotate_left
                              · show Act.put _ (some 9) _ = _
                                simp only [Act.put, List.setIfInBounds_toArray, List.set_cons_zero, List.set_cons_succ, i64_w, i32_w]
                                rfl
                              refine one_ (i := 2) (N := some 26) #[true, true, true, false, true, true, false, true, true, true, true, true, true, true, false, true, false] rfl rfl (one_of HT_.out (by kernel_rfl)) (by decide) (fun K hK => ?_)
                              refine goes_ Try.func51 (by kernel_rfl) rfl #[.int .i64 ((rd_T123 (rd_L2 l0 x12_1) x18_2).f0)] (by rfl) rfl rfl (by (try simp only [List.map_toArray, List.map_cons, List.map_nil]); first | done | rfl | (simp only [List.length_drop, List.length_take]; rfl)) ?_
                              with_reducible refine (fix_Cut.calls ((rd_T123 (rd_L2 l0 x12_1) x18_2).f0) t106 _ A12.out).mono ?_
                              rintro e w25 ⟨rfl, hb⟩
                              refine ⟨_, rfl, ?_⟩
                              have n0_ := Aside0.mk (Kd.R_below (by (with_reducible repeat (first | apply Kd.R_alloc | apply Kd.R_drewN | apply Kd.R_drew)); exact HO_2.out) hb)
                              have n1_ := Aside0.mk (blk_below (g := gb105) (o := .cells #[.int .i64 ((rd_T123 (rd_L2 l0 x12_1) x18_2).f0), .int .i64 ((rd_T123 (rd_L2 l0 x12_1) x18_2).f1), .int .i64 ((rd_T123 (rd_L2 l0 x12_1) x18_2).f2)] 123 (0, 0)) (by (with_reducible repeat (first | refine blk_drewN ?_ _ | refine blk_drew ?_ | refine blk_alloc ?_ _)); exact BK105.out) hb)
                              have n2_ := Aside0.mk (blk_below (g := gb108) (o := .cells #[.int .i64 0, .int .i64 0, .int .i64 0, .int .i64 0] 116 (0, 0)) (by (with_reducible repeat (first | refine blk_drewN ?_ _ | refine blk_drew ?_ | refine blk_alloc ?_ _)); exact BK108.out) hb)
                              have n3_ := Aside0.mk (below_step (by repeat (first | (with_reducible first | exact HB.out | apply below_alloc | apply pw_below_drewN | apply below_drew1 | refine below_set ?_ GE105.out | refine below_set ?_ GE108.out) | exact HB.out)) hb)
                              clear HO_2
                              clear BK105
                              clear BK108
                              clear HB
                              have HO_2 := n0_
                              have BK105 := n1_
                              have BK108 := n2_
                              have HB := n3_
                              clear n0_ n1_ n2_ n3_
                              (try clear hb)
                              (try clear hb2)
                              (try clear hk)
                              (try clear hi)
                              refine hK.out _ _ ⟨(blk_cell BK105.out 0).trans rfl, (blk_cell BK105.out 1).trans rfl, (blk_cell BK105.out 2).trans rfl⟩ (fun hHeld => ?_)
                              clear hK K
                              refine norm_ (a' := ?_) ?_ ?_
                              rotate_left
                              · show Act.put _ (some 26) _ = _
                                simp only [Act.put, List.setIfInBounds_toArray, List.set_cons_zero, List.set_cons_succ, i64_w, i32_w]
                                rfl
                              refine pure_ (i := 3) (N := some 27) (v := ?_) (a' := ?_) #[true, true, true, true, true, true, false, true, true, true, true, true, true, true, false, true, false] rfl rfl (any_of HT_.out (by kernel_rfl)) (fun _ _ _ h => h) (Or.inl ⟨by rfl, ?_⟩) ?_ ?_
                              rotate_left
                              · intro w'
                                go_simp
                                with_reducible rfl
                              rotate_left
                              · simp only [Act.put, List.setIfInBounds_toArray, List.set_cons_zero, List.set_cons_succ, i64_w, i32_w]
                                rfl
                              refine one_ (i := 6) (N := some 30) #[true, true, true, true, true, true, true, true, true, true, true, true, true, true, false, true, false] rfl rfl (one_of HT_.out (by kernel_rfl)) (by decide) (fun K hK => ?_)
                              refine goes_ Try.func51 (by kernel_rfl) rfl #[.int .i64 ((rd_T123 (rd_L2 l0 x12_1) x18_2).f1)] (by rfl) rfl rfl (by (try simp only [List.map_toArray, List.map_cons, List.map_nil]); first | done | rfl | (simp only [List.length_drop, List.length_take]; rfl)) ?_
                              with_reducible refine (fix_Cut.calls ((rd_T123 (rd_L2 l0 x12_1) x18_2).f1) t107 _ A14.out).mono ?_
                              rintro e w26 ⟨rfl, hb⟩
                              refine ⟨_, rfl, ?_⟩
                              have n0_ := Aside0.mk (Kd.R_below (by (with_reducible repeat (first | apply Kd.R_alloc | apply Kd.R_drewN | apply Kd.R_drew)); exact HO_2.out) hb)
                              have n1_ := Aside0.mk (blk_below (g := gb105) (o := .cells #[.int .i64 ((rd_T123 (rd_L2 l0 x12_1) x18_2).f0), .int .i64 ((rd_T123 (rd_L2 l0 x12_1) x18_2).f1), .int .i64 ((rd_T123 (rd_L2 l0 x12_1) x18_2).f2)] 123 (0, 0)) (by (with_reducible repeat (first | refine blk_drewN ?_ _ | refine blk_drew ?_ | refine blk_alloc ?_ _)); exact BK105.out) hb)
                              have n2_ := Aside0.mk (blk_below (g := gb108) (o := .cells #[.int .i64 0, .int .i64 0, .int .i64 0, .int .i64 0] 116 (0, 0)) (by (with_reducible repeat (first | refine blk_drewN ?_ _ | refine blk_drew ?_ | refine blk_alloc ?_ _)); exact BK108.out) hb)
                              have n3_ := Aside0.mk (below_step (by repeat (first | (with_reducible first | exact HB.out | apply below_alloc | apply pw_below_drewN | apply below_drew1 | refine below_set ?_ GE105.out | refine below_set ?_ GE108.out) | exact HB.out)) hb)
                              clear HO_2
                              clear BK105
                              clear BK108
                              clear HB
                              have HO_2 := n0_
                              have BK105 := n1_
                              have BK108 := n2_
                              have HB := n3_
                              clear n0_ n1_ n2_ n3_
                              (try clear hb)
                              (try clear hb2)
                              (try clear hk)
                              (try clear hi)
                              refine hK.out _ _ ⟨(blk_cell BK105.out 0).trans rfl, (blk_cell BK105.out 1).trans rfl, (blk_cell BK105.out 2).trans rfl⟩ (fun hHeld => ?_)
                              clear hK K
                              refine norm_ (a' := ?_) ?_ ?_
                              rotate_left
                              · show Act.put _ (some 30) _ = _
                                simp only [Act.put, List.setIfInBounds_toArray, List.set_cons_zero, List.set_cons_succ, i64_w, i32_w]
                                rfl
                              refine pure_ (i := 14) (N := some 38) (v := ?_) (a' := ?_) #[true, true, true, true, true, true, true, true, true, true, true, true, true, true, true, true, false] rfl rfl (any_of HT_.out (by kernel_rfl)) (fun _ _ _ h => h) (Or.inl ⟨by rfl, ?_⟩) ?_ ?_
                              rotate_left
                              · intro w'
                                go_simp
                                with_reducible rfl
                              rotate_left
                              · simp only [Act.put, List.setIfInBounds_toArray, List.set_cons_zero, List.set_cons_succ, i64_w, i32_w]
                                rfl
                              exact norm_ (by simp only [putAll, Act.put, List.setIfInBounds_toArray, List.set_cons_zero, List.set_cons_succ]) (hCont (gb108) _ ⟨hHeld, (by (with_reducible repeat (first | apply Kd.R_alloc | apply Kd.R_drewN | apply Kd.R_drew)); exact Kd.R_mono HO_2.out (fun _ hk => hk.2)), (by (with_reducible repeat (first | refine blk_drewN ?_ _ | refine blk_drew ?_ | refine blk_alloc ?_ _)); exact BK105.out), (by (with_reducible repeat (first | refine blk_drewN ?_ _ | refine blk_drew ?_ | refine blk_alloc ?_ _)); exact BK108.out), GW108.out, GE108.out, NB105_108.out, NB108_105.out, (by repeat (first | (with_reducible first | exact HB.out | apply below_alloc | apply pw_below_drewN | apply below_drew1 | refine below_set ?_ GE105.out | refine below_set ?_ GE108.out) | exact HB.out))⟩)
                          rintro gb108 w27 ⟨hS_, h0_, h1_, h2_, h3_, h4_, h5_, h6_, h7_⟩
                          have n0_ : Aside0 (Kd.R k116 116 w27 w.heap.size (fun k_ => k_ ≠ gb108) u2 x2_2) := ⟨h0_⟩
                          have n1_ : Aside0 (w27.heap[gb105]? = some (.cells #[.int .i64 ((rd_T123 (rd_L2 l0 x12_1) x18_2).f0), .int .i64 ((rd_T123 (rd_L2 l0 x12_1) x18_2).f1), .int .i64 ((rd_T123 (rd_L2 l0 x12_1) x18_2).f2)] 123 (0, 0))) := ⟨h1_⟩
                          have n2_ : Aside0 (w27.heap[gb108]? = some (.cells #[.int .i64 0, .int .i64 0, .int .i64 0, .int .i64 0] 116 (0, 0))) := ⟨h2_⟩
                          have n3_ : Aside0 (w.heap.size ≤ gb108) := ⟨h3_⟩
                          have n4_ : Aside0 (w.heap.size ≤ gb108) := ⟨h4_⟩
                          have n5_ : Aside0 (gb105 ≠ gb108) := ⟨h5_⟩
                          have n6_ : Aside0 (gb108 ≠ gb105) := ⟨h6_⟩
                          have n7_ : Aside0 (Below w.heap.size w w27) := ⟨h7_⟩
                          clear HO_2
                          clear BK105
                          clear HB
                          clear h0_ h1_ h2_ h3_ h4_ h5_ h6_ h7_
                          have HO_2 := n0_
                          have BK105 := n1_
                          have BK108 := n2_
                          have GW108 := n3_
                          have GE108 := n4_
                          have NB105_108 := n5_
                          have NB108_105 := n6_
                          have HB := n7_
                          clear n0_ n1_ n2_ n3_ n4_ n5_ n6_ n7_
                          have hHeld : w27.cell? ⟨gb105, 0, none⟩ = some (.int .i64 ((rd_T123 (rd_L2 l0 x12_1) x18_2).f0)) ∧ w27.cell? ⟨gb105, 1, none⟩ = some (.int .i64 ((rd_T123 (rd_L2 l0 x12_1) x18_2).f1)) ∧ w27.cell? ⟨gb105, 2, none⟩ = some (.int .i64 ((rd_T123 (rd_L2 l0 x12_1) x18_2).f2)) := hS_
                          refine norm_ (a' := ?_) ?_ ?_
                          rotate_left
                          · simp only [putAll, Act.put, List.setIfInBounds_toArray, List.set_cons_zero, List.set_cons_succ]
                            rfl
                          refine one_ (i := 16) (N := none) #[true, true, true, true, true, true, true, true, true, true, true, true, true, true, true, true, true] rfl rfl (one_of HT_.out (by kernel_rfl)) (by decide) (fun K hK => ?_)
                          have hs28 : w27.cell? ⟨gb108, 0, none⟩ = some (.int .i64 0) := (blk_cell BK108.out 0).trans rfl
                          have hfs28 := blk_frozen BK108.out 0
                          have hns28_0 := NB105_108.out
                          have hms28_0 := NB108_105.out
                          have hs29 : w27.cell? ⟨gb108, 1, none⟩ = some (.int .i64 0) := (blk_cell BK108.out 1).trans rfl
                          have hfs29 := blk_frozen BK108.out 1
                          have hns29_0 := NB105_108.out
                          have hms29_0 := NB108_105.out
                          have hs30 : w27.cell? ⟨gb108, 2, none⟩ = some (.int .i64 0) := (blk_cell BK108.out 2).trans rfl
                          have hfs30 := blk_frozen BK108.out 2
                          have hns30_0 := NB105_108.out
                          have hms30_0 := NB108_105.out
                          have hs31 : w27.cell? ⟨gb108, 3, none⟩ = some (.int .i64 0) := (blk_cell BK108.out 3).trans rfl
                          have hfs31 := blk_frozen BK108.out 3
                          have hns31_0 := NB105_108.out
                          have hms31_0 := NB108_105.out
                          refine skip_ (w1 := ?_) (by rfl) rfl ?_ ?_
                          rotate_left
                          · go_simp
                            rfl
                          refine hK.out _ _ ⟨((cell_far (p := ⟨gb108, _, none⟩) NB105_108.out _).trans (((cell_far (p := ⟨gb108, _, none⟩) NB105_108.out _).trans (((cell_far (p := ⟨gb108, _, none⟩) NB105_108.out _).trans (((cell_far (p := ⟨gb108, _, none⟩) NB105_108.out _).trans (hHeld.1)))))))), ((cell_far (p := ⟨gb108, _, none⟩) NB105_108.out _).trans (((cell_far (p := ⟨gb108, _, none⟩) NB105_108.out _).trans (((cell_far (p := ⟨gb108, _, none⟩) NB105_108.out _).trans (((cell_far (p := ⟨gb108, _, none⟩) NB105_108.out _).trans (hHeld.2.1)))))))), ((cell_far (p := ⟨gb108, _, none⟩) NB105_108.out _).trans (((cell_far (p := ⟨gb108, _, none⟩) NB105_108.out _).trans (((cell_far (p := ⟨gb108, _, none⟩) NB105_108.out _).trans (((cell_far (p := ⟨gb108, _, none⟩) NB105_108.out _).trans (hHeld.2.2))))))))⟩ (fun hHeld => ?_)
                          clear hK K
                          refine done_ (done_of HT_.out (by kernel_rfl)) ?_
                          have hnb32 := NB108_105.out
                          have hnc32 := NB105_108.out
                          have hcz33_0 : w27.cell? ⟨gb108, 0, none⟩ = some (.int .i64 0) := (blk_cell BK108.out 0).trans rfl
                          have hcz33_1 : w27.cell? ⟨gb108, 1, none⟩ = some (.int .i64 0) := (blk_cell BK108.out 1).trans rfl
                          have hcz33_2 : w27.cell? ⟨gb108, 2, none⟩ = some (.int .i64 0) := (blk_cell BK108.out 2).trans rfl
                          have hcz33_3 : w27.cell? ⟨gb108, 3, none⟩ = some (.int .i64 0) := (blk_cell BK108.out 3).trans rfl
                          have hfz33_0 := blk_frozen BK108.out 0
                          have hfz33_1 := blk_frozen BK108.out 1
                          have hfz33_2 := blk_frozen BK108.out 2
                          have hfz33_3 := blk_frozen BK108.out 3
                          have QA : Aside0 (((((w27.setCell ⟨gb108, 0, none⟩ (.int .i64 ji13)).setCell ⟨gb108, 1, none⟩ (.int .i64 t107)).setCell ⟨gb108, 2, none⟩ (.int .i64 x6_2)).setCell ⟨gb108, 3, none⟩ (.int .i64 ji17)).heap[gb105]? = some (.cells #[.int .i64 ((rd_T123 (rd_L2 l0 x12_1) x18_2).f0), .int .i64 ((rd_T123 (rd_L2 l0 x12_1) x18_2).f1), .int .i64 ((rd_T123 (rd_L2 l0 x12_1) x18_2).f2)] 123 (0, 0))) := ⟨blk_far (blk_far (blk_far (blk_far (BK105.out) NB105_108.out _) NB105_108.out _) NB105_108.out _) NB105_108.out _⟩
                          have QC : Aside0 (((((w27.setCell ⟨gb108, 0, none⟩ (.int .i64 ji13)).setCell ⟨gb108, 1, none⟩ (.int .i64 t107)).setCell ⟨gb108, 2, none⟩ (.int .i64 x6_2)).setCell ⟨gb108, 3, none⟩ (.int .i64 ji17)).heap[gb108]? = some (.cells #[.int .i64 ji13, .int .i64 t107, .int .i64 x6_2, .int .i64 ji17] 116 (0, 0))) := ⟨blk_put (blk_put (blk_put (blk_put (BK108.out) 0 (.int .i64 ji13) rfl) 1 (.int .i64 t107) rfl) 2 (.int .i64 x6_2) rfl) 3 (.int .i64 ji17) rfl⟩
                          have QO : Aside0 (k116.R 116 ((((w27.setCell ⟨gb108, 0, none⟩ (.int .i64 ji13)).setCell ⟨gb108, 1, none⟩ (.int .i64 t107)).setCell ⟨gb108, 2, none⟩ (.int .i64 x6_2)).setCell ⟨gb108, 3, none⟩ (.int .i64 ji17)) w.heap.size (fun k_ => k_ ≠ gb108) u2 x2_2) := ⟨Kd.R_mono (Kd.R_far (p := ⟨gb108, 3, none⟩) (Kd.R_far (p := ⟨gb108, 2, none⟩) (Kd.R_far (p := ⟨gb108, 1, none⟩) (Kd.R_far (p := ⟨gb108, 0, none⟩) (Kd.R_mono HO_2.out (fun k_ hk => (⟨hk, hk⟩ : _ ∧ k_ ≠ gb108))) (fun _ hk => hk.2) (.int .i64 ji13)) (fun _ hk => hk.2) (.int .i64 t107)) (fun _ hk => hk.2) (.int .i64 x6_2)) (fun _ hk => hk.2) (.int .i64 ji17)) (fun _ hk => hk.1)⟩
                          have QB : Aside0 (Below w.heap.size w ((((w27.setCell ⟨gb108, 0, none⟩ (.int .i64 ji13)).setCell ⟨gb108, 1, none⟩ (.int .i64 t107)).setCell ⟨gb108, 2, none⟩ (.int .i64 x6_2)).setCell ⟨gb108, 3, none⟩ (.int .i64 ji17))) := ⟨(below_set (below_set (below_set (below_set HB.out GE108.out) GE108.out) GE108.out) GE108.out)⟩
                          clear BK105 BK108 HO_2 HB hs28 hfs28 hs29 hfs29 hs30 hfs30 hs31 hfs31 hcz33_0 hfz33_0 hcz33_1 hfz33_1 hcz33_2 hfz33_2 hcz33_3 hfz33_3
                          generalize ((((w27.setCell ⟨gb108, 0, none⟩ (.int .i64 ji13)).setCell ⟨gb108, 1, none⟩ (.int .i64 t107)).setCell ⟨gb108, 2, none⟩ (.int .i64 x6_2)).setCell ⟨gb108, 3, none⟩ (.int .i64 ji17)) = w28 at QA QC QO QB ⊢
                          have BK105 := QA
                          have BK108 := QC
                          have HO_2 := QO
                          have HB := QB
                          clear QA QC QO QB
                          have hcz33_0 : w28.cell? ⟨gb108, 0, none⟩ = some (.int .i64 ji13) := (blk_cell BK108.out 0).trans rfl
                          have hfz33_0 := blk_frozen BK108.out 0
                          have hcz33_1 : w28.cell? ⟨gb108, 1, none⟩ = some (.int .i64 t107) := (blk_cell BK108.out 1).trans rfl
                          have hfz33_1 := blk_frozen BK108.out 1
                          have hcz33_2 : w28.cell? ⟨gb108, 2, none⟩ = some (.int .i64 x6_2) := (blk_cell BK108.out 2).trans rfl
                          have hfz33_2 := blk_frozen BK108.out 2
                          have hcz33_3 : w28.cell? ⟨gb108, 3, none⟩ = some (.int .i64 ji17) := (blk_cell BK108.out 3).trans rfl
                          have hfz33_3 := blk_frozen BK108.out 3
                          go_wp2_with (first | ((with_reducible refine gate_builtin (b := .append) (xs := #[.tmp 45, .tmp 47]) rfl ?_); at_builtin; refine Kd.R_append k116 (w0 := w) w.heap.size rfl (.tmp 45) (.tmp 47) 111 116 (.agg #[(.int .i64 0), (.int .i64 0), (.int .i64 0), (.int .i64 0)]) 32 rfl Try.underlying111 info116 rfl (by decide) (by omega) u2 x2_2 (⟨ji13, ji18, x6_2, ji17⟩ : S116) [.int .i64 ji13, .int .i64 ji18, .int .i64 x6_2, .int .i64 ji17] (fun k_ => k_ ≠ gb108) (fun _ => False) rfl (by first | (go_simp; done) | (go_simp; rfl)) ?aP (fun _ hk => hk.elim) ?aF ?aO ?aB ?aS ?aL ?_; (case aP => exact k116_mkM _ _ _ (⟨ji13, ji18, x6_2, ji17⟩ : S116)); (case aB => exact below_set HB.out GE108.out); (case aF => exact (fun k_ hk => Kd.freshB (g := gb108) (o := .cells #[.int .i64 ji13, .int .i64 ji18, .int .i64 x6_2, .int .i64 ji17] 116 (0, 0)) (blk_put BK108.out 1 (.int .i64 ji18) rfl) k_ hk)); (case aO => exact Kd.R_mono (Kd.R_far (p := ⟨gb108, 1, none⟩) (Kd.R_mono HO_2.out (fun k_ hk => (⟨hk, hk⟩ : _ ∧ k_ ≠ gb108))) (fun _ hk => hk.2) (.int .i64 ji18)) (fun _ hk => hk.1)); (case aS => exact below_size (below_set HB.out GE108.out)); (case aL => have := LMc19.out; omega); intro v110 w34 ho hb hg hat; rw [← Ny109.out] at ho; have n0_ := Aside0.mk (blk_grown (g := gb105) (o := .cells #[.int .i64 ((rd_T123 (rd_L2 l0 x12_1) x18_2).f0), .int .i64 ((rd_T123 (rd_L2 l0 x12_1) x18_2).f1), .int .i64 ((rd_T123 (rd_L2 l0 x12_1) x18_2).f2)] 123 (0, 0)) (blk_far BK105.out NB105_108.out _) hg (Kd.R_ne HO_2.out BK105.out (by decide))); have n1_ := Aside0.mk (blk_grown (g := gb108) (o := .cells #[.int .i64 ji13, .int .i64 ji18, .int .i64 x6_2, .int .i64 ji17] 116 (0, 0)) (blk_put BK108.out 1 (.int .i64 ji18) rfl) hg (Kd.R_away HO_2.out (fun _ hk => hk))); have n2_ := Aside0.mk (hb); have n3_ := Aside0.mk (ho); clear BK105; clear BK108; clear HB; clear HO_2; have BK105 := n0_; have BK108 := n1_; have HB := n2_; have HO111 := n3_; clear n0_ n1_ n2_ n3_; clear ho hb hg hat; have hcz35_0 : w34.cell? ⟨gb108, 0, none⟩ = some (.int .i64 ji13) := (blk_cell BK108.out 0).trans rfl; have hfz35_0 := blk_frozen BK108.out 0; have hcz35_1 : w34.cell? ⟨gb108, 1, none⟩ = some (.int .i64 ji18) := (blk_cell BK108.out 1).trans rfl; have hfz35_1 := blk_frozen BK108.out 1; have hcz35_2 : w34.cell? ⟨gb108, 2, none⟩ = some (.int .i64 x6_2) := (blk_cell BK108.out 2).trans rfl; have hfz35_2 := blk_frozen BK108.out 2; have hcz35_3 : w34.cell? ⟨gb108, 3, none⟩ = some (.int .i64 ji17) := (blk_cell BK108.out 3).trans rfl; have hfz35_3 := blk_frozen BK108.out 3) | (trace_state; fail))
                          go_roundg k2
                          case measure => have := HK1.out; have := HK2.out; omega
                          case rel => exact ⟨(y109), (wrap64 (x6_2 + (ji17))), (wrap64 (x18_2 + 1)), (by first | rfl | (simp; done) | (simp only [← hji17] <;> (first | rfl | simp)) | (simp [*]; done)), (by first | rfl | (simp; done) | (simp [*]; done)), H', ⟨by have := HK1.out; have := HK2.out; omega⟩, ⟨by (with_reducible repeat (first | apply Kd.R_alloc | apply Kd.R_drewN | apply Kd.R_drew)); exact Kd.R_mono HO111.out (fun _ hk => trivial)⟩, ⟨by repeat (first | (with_reducible first | exact HB.out | apply below_alloc | apply pw_below_drewN | apply below_drew1 | refine below_set ?_ GE105.out | refine below_set ?_ GE108.out) | exact HB.out)⟩⟩
                        · rw [if_neg c19] at H
                          exact absurd H (by simp)
                    · rw [if_neg c7] at H
                      exact absurd H (by simp)
                  · rw [if_neg c6] at H
                    exact absurd H (by simp)
                · rw [if_neg c5] at H
                  have c5b0 : decide (x18_2 < ((rd_L2 l0 x12_1).length : Int)) = false := decide_eq_false c5
                  clear c5
                  obtain ⟨ji36, hji36⟩ : ∃ j_ : Int, (mx x3_1 x6_2) = j_ := ⟨_, rfl⟩
                  replace H : (table_cells.l0 k2 x2_2 ji36 l0 (l0.length : Int) (wrap64 (x12_1 + 1))) = some (r1, r2) := by first | (rw [hji36] at H; exact H) | (simp only [hji36] at H ⊢; exact H)
                  have hji36_ : (if x3_1 < x6_2 then x6_2 else x3_1) = ji36 := hji36
                  have H' := Aside0.mk H
                  clear H
                  go_wp2
                  go_roundg k2
                  case measure => have := HK1.out; have := HK2.out; omega
                  case rel => exact ⟨(x2_2), (ji36), (wrap64 (x12_1 + 1)), (by first | rfl | (simp; done) | (simp only [← hji36] <;> (first | rfl | simp)) | (simp [*]; done)), (by first | rfl | (simp; done) | (simp [*]; done)), H', ⟨by have := HK1.out; have := HK2.out; omega⟩, ⟨by (with_reducible repeat (first | apply Kd.R_alloc | apply Kd.R_drewN | apply Kd.R_drew)); exact HO_2.out⟩, ⟨by repeat (first | (with_reducible first | exact HB.out | apply below_alloc | apply pw_below_drewN | apply below_drew1) | exact HB.out)⟩⟩
          · rw [if_neg c4] at H
            exact absurd H (by simp)
        · rw [if_neg c3] at H
          exact absurd H (by simp)
      · rw [if_neg c2] at H
        have c2b0 : decide (x12_1 < (l0.length : Int)) = false := decide_eq_false c2
        clear c2
        simp only [Option.some.injEq, Prod.mk.injEq] at H
        obtain ⟨rfl, rfl⟩ := H
        go_wp2
        go_ret2
        exact ⟨_, by first | rfl | (simp [errW_none, errW_some] <;> rfl) | (simp [*, errW_none, errW_some] <;> rfl), by (with_reducible repeat (first | apply Kd.R_alloc | apply Kd.R_drewN | apply Kd.R_drew)); exact HO_2.out, by repeat (first | (with_reducible first | exact HB.out | apply below_alloc | apply pw_below_drewN | apply below_drew1) | exact HB.out)⟩

-- NOT PRINTED: function 119 (table_cell_119)

-- NOT PRINTED: function 125 (table_cell_125)

-- NOT PRINTED: function 122 (table_cell_122)

-- NOT PRINTED: function 120 (table_cell_120)

-- NOT PRINTED: function 115 (table_cell_115)

-- NOT PRINTED: function 83 (table_cell_83)

end Go.Proofs.Ytaejmgdpnnhpmaa.QTableWidths
