-- Written by a program of this session: a turn of the kit's print over contracts that were proved by hand. Not trusted: Lean checks it.
import Derived.Test.YtdmkofbndeicfaaQBoxesChecksx0
namespace Go.Proofs.Ytdmkofbndeicfaa.QBoxesChecks
open Go.RowKit Go.Proofs.YtdmkofbndeicfaaW.PrintWords Go.Proofs.YtdmkofbndeicfaaW.PrintLast Go.Proofs.YtdmkofbndeicfaaW.PrintMore
attribute [local go_sem] max2_int min2_int max_two min_two max_three min_three max_four min_four   -- for this text's walks alone
set_option linter.unusedVariables false
set_option linter.unusedSimpArgs false

/-! ### clerestoryref3_BoxesCheck: function 31 -/
mutual
def clerestoryref3_BoxesCheck.l0 : Nat → List (S87) → Int → List (S87) → Int → Int → Option (Bool)
  | 0, _, _, _, _, _ => none
  | k + 1, x0, x3, x8, x9, x10 => if x10 < x9 then (if 0 ≤ x10 then (if x10 < (x8.length : Int) then (if ((rd_T87 x8 x10).f0) < 1 then (clerestoryref3_BoxesCheck.j1 k x0 x3 x10 x8 x9 x10 true ((rd_T87 x8 x10).f0) ((rd_T87 x8 x10).f1) ((rd_T87 x8 x10).f2) ((rd_T87 x8 x10).f3) ((rd_T87 x8 x10).f4)) else (if ((rd_T87 x8 x10).f0) > 9 then (clerestoryref3_BoxesCheck.j1 k x0 x3 x10 x8 x9 x10 true ((rd_T87 x8 x10).f0) ((rd_T87 x8 x10).f1) ((rd_T87 x8 x10).f2) ((rd_T87 x8 x10).f3) ((rd_T87 x8 x10).f4)) else (if ((rd_T87 x8 x10).f1) < (-1) then (clerestoryref3_BoxesCheck.j1 k x0 x3 x10 x8 x9 x10 true ((rd_T87 x8 x10).f0) ((rd_T87 x8 x10).f1) ((rd_T87 x8 x10).f2) ((rd_T87 x8 x10).f3) ((rd_T87 x8 x10).f4)) else (if x10 = 0 then (clerestoryref3_BoxesCheck.j1 k x0 x3 x10 x8 x9 x10 (((rd_T87 x8 x10).f2) != (-1)) ((rd_T87 x8 x10).f0) ((rd_T87 x8 x10).f1) ((rd_T87 x8 x10).f2) ((rd_T87 x8 x10).f3) ((rd_T87 x8 x10).f4)) else (clerestoryref3_BoxesCheck.j1 k x0 x3 x10 x8 x9 x10 false ((rd_T87 x8 x10).f0) ((rd_T87 x8 x10).f1) ((rd_T87 x8 x10).f2) ((rd_T87 x8 x10).f3) ((rd_T87 x8 x10).f4)))))) else (none)) else (none)) else (if (x0.length : Int) = 0 then (some true) else (some (x3 == (wrap64 ((x0.length : Int) - 1)))))
def clerestoryref3_BoxesCheck.j1 : Nat → List (S87) → Int → Int → List (S87) → Int → Int → Bool → Int → Int → Int → List Int → ByteArray → Option (Bool)
  | 0, _, _, _, _, _, _, _, _, _, _, _, _ => none
  | k + 1, x0, x3, x4, x8, x9, x10, x36, x107000, x107001, x107002, x107003, x107004 => if x36 = true then (some false) else (clerestoryref3_BoxesCheck.l1 k x0 x3 x4 x8 x9 x10 x107003 (x107003.length : Int) 0 x107000 x107001 x107002 x107003 x107004)
def clerestoryref3_BoxesCheck.l1 : Nat → List (S87) → Int → Int → List (S87) → Int → Int → List Int → Int → Int → Int → Int → Int → List Int → ByteArray → Option (Bool)
  | 0, _, _, _, _, _, _, _, _, _, _, _, _, _, _ => none
  | k + 1, x0, x3, x4, x8, x9, x10, x38, x39, x40, x107000, x107001, x107002, x107003, x107004 => if x40 < x39 then (if 0 ≤ x40 then (if x40 < (x38.length : Int) then (if (rd x38 x40) ≤ x4 then (some false) else (if (rd x38 x40) ≥ (x0.length : Int) then (some false) else (if x40 > 0 then (if 0 ≤ (wrap64 (x40 - 1)) then (if (wrap64 (x40 - 1)) < (x107003.length : Int) then (if (rd x38 x40) ≤ (rd x107003 (wrap64 (x40 - 1))) then (some false) else (if 0 ≤ (rd x38 x40) then (if (rd x38 x40) < (x0.length : Int) then (if ((rd_T87 x0 (rd x38 x40)).f2) = x4 then (clerestoryref3_BoxesCheck.l1 k x0 x3 x4 x8 x9 x10 x38 x39 (wrap64 (x40 + 1)) x107000 x107001 x107002 x107003 x107004) else (some false)) else (none)) else (none))) else (none)) else (none)) else (if 0 ≤ (rd x38 x40) then (if (rd x38 x40) < (x0.length : Int) then (if ((rd_T87 x0 (rd x38 x40)).f2) = x4 then (clerestoryref3_BoxesCheck.l1 k x0 x3 x4 x8 x9 x10 x38 x39 (wrap64 (x40 + 1)) x107000 x107001 x107002 x107003 x107004) else (some false)) else (none)) else (none))))) else (none)) else (none)) else (clerestoryref3_BoxesCheck.l0 k x0 (wrap64 (x3 + (x107003.length : Int))) x8 x9 (wrap64 (x10 + 1)))
end
def clerestoryref3_BoxesCheck.f (k : Nat) (l0 : List (S87)) : Option (Bool) := clerestoryref3_BoxesCheck.l0 k l0 0 l0 (l0.length : Int) 0
theorem clerestoryref3_BoxesCheck.mono_l : ∀ k, (∀ y0 y1 y2 y3 y4, LeO (clerestoryref3_BoxesCheck.l0 k y0 y1 y2 y3 y4) (clerestoryref3_BoxesCheck.l0 (k + 1) y0 y1 y2 y3 y4)) ∧ (∀ y0 y1 y2 y3 y4 y5 y6 y7 y8 y9 y10 y11, LeO (clerestoryref3_BoxesCheck.j1 k y0 y1 y2 y3 y4 y5 y6 y7 y8 y9 y10 y11) (clerestoryref3_BoxesCheck.j1 (k + 1) y0 y1 y2 y3 y4 y5 y6 y7 y8 y9 y10 y11)) ∧ (∀ y0 y1 y2 y3 y4 y5 y6 y7 y8 y9 y10 y11 y12 y13, LeO (clerestoryref3_BoxesCheck.l1 k y0 y1 y2 y3 y4 y5 y6 y7 y8 y9 y10 y11 y12 y13) (clerestoryref3_BoxesCheck.l1 (k + 1) y0 y1 y2 y3 y4 y5 y6 y7 y8 y9 y10 y11 y12 y13))
  | 0 => ⟨fun _ _ _ _ _ r h => by simp [clerestoryref3_BoxesCheck.l0] at h, fun _ _ _ _ _ _ _ _ _ _ _ _ r h => by simp [clerestoryref3_BoxesCheck.j1] at h, fun _ _ _ _ _ _ _ _ _ _ _ _ _ _ r h => by simp [clerestoryref3_BoxesCheck.l1] at h⟩
  | k + 1 => by
    obtain ⟨ih0, ih1, ih2⟩ := clerestoryref3_BoxesCheck.mono_l k
    refine ⟨?_, ?_, ?_⟩
    · intro y0 y1 y2 y3 y4
      unfold clerestoryref3_BoxesCheck.l0
      repeat' first
      | (with_reducible exact ih0 _ _ _ _ _)
      | (with_reducible exact ih1 _ _ _ _ _ _ _ _ _ _ _ _)
      | (with_reducible exact ih2 _ _ _ _ _ _ _ _ _ _ _ _ _ _)
      | (with_reducible exact LeO.refl _)
      | (with_reducible exact LeO.none _)
      | (with_reducible refine LeO.ite ?_ ?_)
      | (with_reducible refine LeO.bind ?_ (fun _ => ?_))
      | exact ih0 _ _ _ _ _
      | exact ih1 _ _ _ _ _ _ _ _ _ _ _ _
      | exact ih2 _ _ _ _ _ _ _ _ _ _ _ _ _ _
      | exact LeO.none _
      | refine LeO.ite ?_ ?_
      | refine LeO.bind ?_ (fun _ => ?_)
    · intro y0 y1 y2 y3 y4 y5 y6 y7 y8 y9 y10 y11
      unfold clerestoryref3_BoxesCheck.j1
      repeat' first
      | (with_reducible exact ih0 _ _ _ _ _)
      | (with_reducible exact ih1 _ _ _ _ _ _ _ _ _ _ _ _)
      | (with_reducible exact ih2 _ _ _ _ _ _ _ _ _ _ _ _ _ _)
      | (with_reducible exact LeO.refl _)
      | (with_reducible exact LeO.none _)
      | (with_reducible refine LeO.ite ?_ ?_)
      | (with_reducible refine LeO.bind ?_ (fun _ => ?_))
      | exact ih0 _ _ _ _ _
      | exact ih1 _ _ _ _ _ _ _ _ _ _ _ _
      | exact ih2 _ _ _ _ _ _ _ _ _ _ _ _ _ _
      | exact LeO.none _
      | refine LeO.ite ?_ ?_
      | refine LeO.bind ?_ (fun _ => ?_)
    · intro y0 y1 y2 y3 y4 y5 y6 y7 y8 y9 y10 y11 y12 y13
      unfold clerestoryref3_BoxesCheck.l1
      repeat' first
      | (with_reducible exact ih0 _ _ _ _ _)
      | (with_reducible exact ih1 _ _ _ _ _ _ _ _ _ _ _ _)
      | (with_reducible exact ih2 _ _ _ _ _ _ _ _ _ _ _ _ _ _)
      | (with_reducible exact LeO.refl _)
      | (with_reducible exact LeO.none _)
      | (with_reducible refine LeO.ite ?_ ?_)
      | (with_reducible refine LeO.bind ?_ (fun _ => ?_))
      | exact ih0 _ _ _ _ _
      | exact ih1 _ _ _ _ _ _ _ _ _ _ _ _
      | exact ih2 _ _ _ _ _ _ _ _ _ _ _ _ _ _
      | exact LeO.none _
      | refine LeO.ite ?_ ?_
      | refine LeO.bind ?_ (fun _ => ?_)
theorem clerestoryref3_BoxesCheck.mono : ∀ a0 k, LeO (clerestoryref3_BoxesCheck.f k a0) (clerestoryref3_BoxesCheck.f (k + 1) a0) := by
  intro a0 k
  obtain ⟨ih0, ih1, ih2⟩ := clerestoryref3_BoxesCheck.mono_l k
  unfold clerestoryref3_BoxesCheck.f
  repeat' first
      | (with_reducible exact ih0 _ _ _ _ _)
      | (with_reducible exact ih1 _ _ _ _ _ _ _ _ _ _ _ _)
      | (with_reducible exact ih2 _ _ _ _ _ _ _ _ _ _ _ _ _ _)
      | (with_reducible exact LeO.refl _)
      | (with_reducible exact LeO.none _)
      | (with_reducible refine LeO.ite ?_ ?_)
      | (with_reducible refine LeO.bind ?_ (fun _ => ?_))
      | exact ih0 _ _ _ _ _
      | exact ih1 _ _ _ _ _ _ _ _ _ _ _ _
      | exact ih2 _ _ _ _ _ _ _ _ _ _ _ _ _ _
      | exact LeO.none _
      | refine LeO.ite ?_ ?_
      | refine LeO.bind ?_ (fun _ => ?_)
set_option maxHeartbeats 8000000 in
set_option maxRecDepth 100000 in
theorem clerestoryref3_BoxesCheck.calls (k : Nat) (A0 : Option Addr) (c0 : Nat) (l0 : List (S87)) (r : Bool) (w : World) (hr0 : Kd.C k87 w A0 l0.length l0) (hc0 : l0.length ≤ c0) (h : clerestoryref3_BoxesCheck.f k l0 = some r) :
    Calls Try.prog 31 #[.slice A0 l0.length c0] w fun e w' => e = .returned (.bool r) ∧ Below w.heap.size w w' := by
  have hu87 := Try.underlying87
  have HR0 := Aside0.mk hr0
  have HC0 := Aside0.mk hc0
  clear hr0 hc0
  have HB := Aside0.mk (Below.refl w.heap.size w)
  have H : (clerestoryref3_BoxesCheck.l0 k l0 0 l0 (l0.length : Int) 0) = some r := h
  clear h
  have H' := Aside0.mk H
  clear H
  go_enter Try.func31, Try.ntmps31
  go_wp2
  go_loopg [3, 10] k (fun kq v3 v10 w' => ∃ (x3_1 : Int) (x10_1 : Int), v3 = .int .i64 x3_1 ∧ v10 = .int .i64 x10_1 ∧ Aside0 (clerestoryref3_BoxesCheck.l0 kq l0 x3_1 l0 (l0.length : Int) x10_1 = some r) ∧ Aside0 (kq ≤ k) ∧ Aside0 (Below w.heap.size w w'))
  case atStart => exact ⟨(0), (0), (by first | rfl | (simp; done) | (simp [*]; done)), (by first | rfl | (simp; done) | (simp [*]; done)), H', ⟨Nat.le_refl _⟩, ⟨by repeat (first | (with_reducible first | exact HB.out | apply below_alloc | apply pw_below_drewN | apply below_drew1) | exact HB.out)⟩⟩
  case round =>
    clear H'
    obtain ⟨x3_1, x10_1, rfl, rfl, HA, HK1, HB⟩ := hrel
    cases gk with
    | zero => exact absurd HA.out (by simp [clerestoryref3_BoxesCheck.l0])
    | succ k1 =>
      have H := HA.out
      clear HA
      simp only [clerestoryref3_BoxesCheck.l0] at H
      by_cases c2 : x10_1 < (l0.length : Int)
      · rw [if_pos c2] at H
        have c2b0 : decide (x10_1 < (l0.length : Int)) = true := decide_eq_true c2
        clear c2
        by_cases c3 : 0 ≤ x10_1
        · rw [if_pos c3] at H
          have c3b0 : decide (0 ≤ x10_1) = true := decide_eq_true c3
          clear c3
          by_cases c4 : x10_1 < (l0.length : Int)
          · rw [if_pos c4] at H
            have c4b0 : decide (x10_1 < (l0.length : Int)) = true := decide_eq_true c4
            clear c4
            have HC5 := Aside0.mk H
            clear H
            have p105 : 0 ≤ (x10_1 : Int) := of_decide_eq_true (by first | (with_reducible assumption) | assumption)
            have q105 : x10_1 < (l0.length : Int) := of_decide_eq_true (by first | (with_reducible assumption) | assumption)
            obtain ⟨ad105, A105_3, c105_3, e105, hx105_0, hx105_1, hx105_2, hx105_3, hx105_4, hl105_3, hi105_3⟩ := at_T87 HR0.out x10_1 p105 q105
            cases e105
            replace hx105_0 := (HB.out.cell (World.block_lt_of_cell? w _ hx105_0)).trans hx105_0
            replace hx105_1 := (HB.out.cell (World.block_lt_of_cell? w _ hx105_1)).trans hx105_1
            replace hx105_2 := (HB.out.cell (World.block_lt_of_cell? w _ hx105_2)).trans hx105_2
            replace hx105_3 := (HB.out.cell (World.block_lt_of_cell? w _ hx105_3)).trans hx105_3
            replace hx105_4 := (HB.out.cell (World.block_lt_of_cell? w _ hx105_4)).trans hx105_4
            have HR105_3 := Aside0.mk hi105_3
            have HC105_3 := Aside0.mk hl105_3
            clear hi105_3 hl105_3
            replace p105 := eq_true p105
            replace q105 := eq_true q105
            go_upto_region 5 with (first | ((with_reducible refine gate_dst (N := 5) rfl ?_); (try (refine gate_guard (by rfl) ?_; dsimp only)); refine box_event ?hg (N := 5) ?hd (cs := #[.int .i64 0, .int .i64 0, .int .i64 0, .slice none 0 0, .string (⟨#[]⟩ : ByteArray)]) (t := 87) ?hr ?_; (case hd => rfl); (case hg => rfl); (case hr => first | (go_simp; done) | (go_simp; rfl)); intro gb106 hg w6 hbox hb; have n0_ := Aside0.mk (below_step (by repeat (first | (with_reducible first | exact HB.out | apply below_alloc | apply pw_below_drewN | apply below_drew1) | exact HB.out)) hb); have n1_ := Aside0.mk (hbox); have n2_ := Aside0.mk ((by rw [hg]; exact (below_size (by repeat (first | (with_reducible first | exact HB.out | apply below_alloc | apply pw_below_drewN | apply below_drew1) | exact HB.out))) : w.heap.size ≤ gb106)); have n3_ := Aside0.mk ((by rw [hg]; exact (below_size (by repeat (first | (with_reducible first | exact HB.out | apply below_alloc | apply pw_below_drewN | apply below_drew1) | exact HB.out))) : w.heap.size ≤ gb106)); clear HB; have HB := n0_; have BK106 := n1_; have GW106 := n2_; have GE106 := n3_; clear n0_ n1_ n2_ n3_; clear hb hbox hg; have hcz7_0 : w6.cell? ⟨gb106, 0, none⟩ = some (.int .i64 0) := (blk_cell BK106.out 0).trans rfl; have hcz7_1 : w6.cell? ⟨gb106, 1, none⟩ = some (.int .i64 0) := (blk_cell BK106.out 1).trans rfl; have hcz7_2 : w6.cell? ⟨gb106, 2, none⟩ = some (.int .i64 0) := (blk_cell BK106.out 2).trans rfl; have hcz7_3 : w6.cell? ⟨gb106, 3, none⟩ = some (.slice none 0 0) := (blk_cell BK106.out 3).trans rfl; have hcz7_4 : w6.cell? ⟨gb106, 4, none⟩ = some (.string (⟨#[]⟩ : ByteArray)) := (blk_cell BK106.out 4).trans rfl; have hfz7_0 := blk_frozen BK106.out 0; have hfz7_1 := blk_frozen BK106.out 1; have hfz7_2 := blk_frozen BK106.out 2; have hfz7_3 := blk_frozen BK106.out 3; have hfz7_4 := blk_frozen BK106.out 4))
            (try simp only [Act.put, List.setIfInBounds_toArray, List.set_cons_zero, List.set_cons_succ])
            go_cut [36] (fun v36 wc => ∃ (kq : Nat) (x36_4 : Bool), v36 = .bool x36_4 ∧ Aside0 (clerestoryref3_BoxesCheck.j1 kq l0 x3_1 x10_1 l0 (l0.length : Int) x10_1 x36_4 ((rd_T87 l0 x10_1).f0) ((rd_T87 l0 x10_1).f1) ((rd_T87 l0 x10_1).f2) ((rd_T87 l0 x10_1).f3) ((rd_T87 l0 x10_1).f4) = some r) ∧ Aside0 (kq ≤ k1) ∧ Aside0 (wc.heap[gb106]? = some (.cells #[.int .i64 ((rd_T87 l0 x10_1).f0), .int .i64 ((rd_T87 l0 x10_1).f1), .int .i64 ((rd_T87 l0 x10_1).f2), (.slice A105_3 ((rd_T87 l0 x10_1).f3).length c105_3), .string ((rd_T87 l0 x10_1).f4)] 87 (0, 0))) ∧ Aside0 (Below w.heap.size w wc))
            case first =>
              have H := HC5.out
              clear HC5
              by_cases c8 : ((rd_T87 l0 x10_1).f0) < 1
              · rw [if_pos c8] at H
                have c8b0 : decide (((rd_T87 l0 x10_1).f0) < 1) = true := decide_eq_true c8
                clear c8
                (first | rw [c8b0] | (simp only [i64_w, i32_w]; rw [c8b0]) | skip)
                have H' := Aside0.mk H
                clear H
                have hcz9_0 : w6.cell? ⟨gb106, 0, none⟩ = some (.int .i64 0) := (blk_cell BK106.out 0).trans rfl
                have hcz9_1 : w6.cell? ⟨gb106, 1, none⟩ = some (.int .i64 0) := (blk_cell BK106.out 1).trans rfl
                have hcz9_2 : w6.cell? ⟨gb106, 2, none⟩ = some (.int .i64 0) := (blk_cell BK106.out 2).trans rfl
                have hcz9_3 : w6.cell? ⟨gb106, 3, none⟩ = some (.slice none 0 0) := (blk_cell BK106.out 3).trans rfl
                have hcz9_4 : w6.cell? ⟨gb106, 4, none⟩ = some (.string (⟨#[]⟩ : ByteArray)) := (blk_cell BK106.out 4).trans rfl
                have hfz9_0 := blk_frozen BK106.out 0
                have hfz9_1 := blk_frozen BK106.out 1
                have hfz9_2 := blk_frozen BK106.out 2
                have hfz9_3 := blk_frozen BK106.out 3
                have hfz9_4 := blk_frozen BK106.out 4
                go_wp2
                go_meet
                case rel => exact ⟨_, (true), (by first | rfl | (simp; done) | (simp [*]; done)), H', ⟨by have := HK1.out; first | omega | exact Nat.le_refl _⟩, ⟨by (with_reducible repeat (first | refine blk_drewN ?_ _ | refine blk_drew ?_ | refine blk_alloc ?_ _)); refine blk_put (cs := #[.int .i64 ((rd_T87 l0 x10_1).f0), .int .i64 ((rd_T87 l0 x10_1).f1), .int .i64 ((rd_T87 l0 x10_1).f2), .slice A105_3 ((rd_T87 l0 x10_1).f3).length c105_3, .string (⟨#[]⟩ : ByteArray)]) ?_ 4 _ rfl; (with_reducible repeat (first | refine blk_drewN ?_ _ | refine blk_drew ?_ | refine blk_alloc ?_ _)); refine blk_put (cs := #[.int .i64 ((rd_T87 l0 x10_1).f0), .int .i64 ((rd_T87 l0 x10_1).f1), .int .i64 ((rd_T87 l0 x10_1).f2), .slice none 0 0, .string (⟨#[]⟩ : ByteArray)]) ?_ 3 _ rfl; (with_reducible repeat (first | refine blk_drewN ?_ _ | refine blk_drew ?_ | refine blk_alloc ?_ _)); refine blk_put (cs := #[.int .i64 ((rd_T87 l0 x10_1).f0), .int .i64 ((rd_T87 l0 x10_1).f1), .int .i64 0, .slice none 0 0, .string (⟨#[]⟩ : ByteArray)]) ?_ 2 _ rfl; (with_reducible repeat (first | refine blk_drewN ?_ _ | refine blk_drew ?_ | refine blk_alloc ?_ _)); refine blk_put (cs := #[.int .i64 ((rd_T87 l0 x10_1).f0), .int .i64 0, .int .i64 0, .slice none 0 0, .string (⟨#[]⟩ : ByteArray)]) ?_ 1 _ rfl; (with_reducible repeat (first | refine blk_drewN ?_ _ | refine blk_drew ?_ | refine blk_alloc ?_ _)); refine blk_put (cs := #[.int .i64 0, .int .i64 0, .int .i64 0, .slice none 0 0, .string (⟨#[]⟩ : ByteArray)]) ?_ 0 _ rfl; (with_reducible repeat (first | refine blk_drewN ?_ _ | refine blk_drew ?_ | refine blk_alloc ?_ _)); exact BK106.out⟩, ⟨by repeat (first | (with_reducible first | exact HB.out | apply below_alloc | apply pw_below_drewN | apply below_drew1 | refine below_set ?_ GE106.out) | exact HB.out)⟩⟩
              · rw [if_neg c8] at H
                have c8b0 : decide (((rd_T87 l0 x10_1).f0) < 1) = false := decide_eq_false c8
                clear c8
                (first | rw [c8b0] | (simp only [i64_w, i32_w]; rw [c8b0]) | skip)
                by_cases c10 : ((rd_T87 l0 x10_1).f0) > 9
                · rw [if_pos c10] at H
                  have c10b0 : decide (9 < ((rd_T87 l0 x10_1).f0)) = true := decide_eq_true c10
                  clear c10
                  have H' := Aside0.mk H
                  clear H
                  have hcz11_0 : w6.cell? ⟨gb106, 0, none⟩ = some (.int .i64 0) := (blk_cell BK106.out 0).trans rfl
                  have hcz11_1 : w6.cell? ⟨gb106, 1, none⟩ = some (.int .i64 0) := (blk_cell BK106.out 1).trans rfl
                  have hcz11_2 : w6.cell? ⟨gb106, 2, none⟩ = some (.int .i64 0) := (blk_cell BK106.out 2).trans rfl
                  have hcz11_3 : w6.cell? ⟨gb106, 3, none⟩ = some (.slice none 0 0) := (blk_cell BK106.out 3).trans rfl
                  have hcz11_4 : w6.cell? ⟨gb106, 4, none⟩ = some (.string (⟨#[]⟩ : ByteArray)) := (blk_cell BK106.out 4).trans rfl
                  have hfz11_0 := blk_frozen BK106.out 0
                  have hfz11_1 := blk_frozen BK106.out 1
                  have hfz11_2 := blk_frozen BK106.out 2
                  have hfz11_3 := blk_frozen BK106.out 3
                  have hfz11_4 := blk_frozen BK106.out 4
                  go_wp2
                  go_meet
                  case rel => exact ⟨_, (true), (by first | rfl | (simp; done) | (simp [*]; done)), H', ⟨by have := HK1.out; first | omega | exact Nat.le_refl _⟩, ⟨by (with_reducible repeat (first | refine blk_drewN ?_ _ | refine blk_drew ?_ | refine blk_alloc ?_ _)); refine blk_put (cs := #[.int .i64 ((rd_T87 l0 x10_1).f0), .int .i64 ((rd_T87 l0 x10_1).f1), .int .i64 ((rd_T87 l0 x10_1).f2), .slice A105_3 ((rd_T87 l0 x10_1).f3).length c105_3, .string (⟨#[]⟩ : ByteArray)]) ?_ 4 _ rfl; (with_reducible repeat (first | refine blk_drewN ?_ _ | refine blk_drew ?_ | refine blk_alloc ?_ _)); refine blk_put (cs := #[.int .i64 ((rd_T87 l0 x10_1).f0), .int .i64 ((rd_T87 l0 x10_1).f1), .int .i64 ((rd_T87 l0 x10_1).f2), .slice none 0 0, .string (⟨#[]⟩ : ByteArray)]) ?_ 3 _ rfl; (with_reducible repeat (first | refine blk_drewN ?_ _ | refine blk_drew ?_ | refine blk_alloc ?_ _)); refine blk_put (cs := #[.int .i64 ((rd_T87 l0 x10_1).f0), .int .i64 ((rd_T87 l0 x10_1).f1), .int .i64 0, .slice none 0 0, .string (⟨#[]⟩ : ByteArray)]) ?_ 2 _ rfl; (with_reducible repeat (first | refine blk_drewN ?_ _ | refine blk_drew ?_ | refine blk_alloc ?_ _)); refine blk_put (cs := #[.int .i64 ((rd_T87 l0 x10_1).f0), .int .i64 0, .int .i64 0, .slice none 0 0, .string (⟨#[]⟩ : ByteArray)]) ?_ 1 _ rfl; (with_reducible repeat (first | refine blk_drewN ?_ _ | refine blk_drew ?_ | refine blk_alloc ?_ _)); refine blk_put (cs := #[.int .i64 0, .int .i64 0, .int .i64 0, .slice none 0 0, .string (⟨#[]⟩ : ByteArray)]) ?_ 0 _ rfl; (with_reducible repeat (first | refine blk_drewN ?_ _ | refine blk_drew ?_ | refine blk_alloc ?_ _)); exact BK106.out⟩, ⟨by repeat (first | (with_reducible first | exact HB.out | apply below_alloc | apply pw_below_drewN | apply below_drew1 | refine below_set ?_ GE106.out) | exact HB.out)⟩⟩
                · rw [if_neg c10] at H
                  have c10b0 : decide (9 < ((rd_T87 l0 x10_1).f0)) = false := decide_eq_false c10
                  clear c10
                  by_cases c12 : ((rd_T87 l0 x10_1).f1) < (-1)
                  · rw [if_pos c12] at H
                    have c12b0 : decide (((rd_T87 l0 x10_1).f1) < (-1)) = true := decide_eq_true c12
                    clear c12
                    have H' := Aside0.mk H
                    clear H
                    have hcz13_0 : w6.cell? ⟨gb106, 0, none⟩ = some (.int .i64 0) := (blk_cell BK106.out 0).trans rfl
                    have hcz13_1 : w6.cell? ⟨gb106, 1, none⟩ = some (.int .i64 0) := (blk_cell BK106.out 1).trans rfl
                    have hcz13_2 : w6.cell? ⟨gb106, 2, none⟩ = some (.int .i64 0) := (blk_cell BK106.out 2).trans rfl
                    have hcz13_3 : w6.cell? ⟨gb106, 3, none⟩ = some (.slice none 0 0) := (blk_cell BK106.out 3).trans rfl
                    have hcz13_4 : w6.cell? ⟨gb106, 4, none⟩ = some (.string (⟨#[]⟩ : ByteArray)) := (blk_cell BK106.out 4).trans rfl
                    have hfz13_0 := blk_frozen BK106.out 0
                    have hfz13_1 := blk_frozen BK106.out 1
                    have hfz13_2 := blk_frozen BK106.out 2
                    have hfz13_3 := blk_frozen BK106.out 3
                    have hfz13_4 := blk_frozen BK106.out 4
                    go_wp2
                    go_meet
                    case rel => exact ⟨_, (true), (by first | rfl | (simp; done) | (simp [*]; done)), H', ⟨by have := HK1.out; first | omega | exact Nat.le_refl _⟩, ⟨by (with_reducible repeat (first | refine blk_drewN ?_ _ | refine blk_drew ?_ | refine blk_alloc ?_ _)); refine blk_put (cs := #[.int .i64 ((rd_T87 l0 x10_1).f0), .int .i64 ((rd_T87 l0 x10_1).f1), .int .i64 ((rd_T87 l0 x10_1).f2), .slice A105_3 ((rd_T87 l0 x10_1).f3).length c105_3, .string (⟨#[]⟩ : ByteArray)]) ?_ 4 _ rfl; (with_reducible repeat (first | refine blk_drewN ?_ _ | refine blk_drew ?_ | refine blk_alloc ?_ _)); refine blk_put (cs := #[.int .i64 ((rd_T87 l0 x10_1).f0), .int .i64 ((rd_T87 l0 x10_1).f1), .int .i64 ((rd_T87 l0 x10_1).f2), .slice none 0 0, .string (⟨#[]⟩ : ByteArray)]) ?_ 3 _ rfl; (with_reducible repeat (first | refine blk_drewN ?_ _ | refine blk_drew ?_ | refine blk_alloc ?_ _)); refine blk_put (cs := #[.int .i64 ((rd_T87 l0 x10_1).f0), .int .i64 ((rd_T87 l0 x10_1).f1), .int .i64 0, .slice none 0 0, .string (⟨#[]⟩ : ByteArray)]) ?_ 2 _ rfl; (with_reducible repeat (first | refine blk_drewN ?_ _ | refine blk_drew ?_ | refine blk_alloc ?_ _)); refine blk_put (cs := #[.int .i64 ((rd_T87 l0 x10_1).f0), .int .i64 0, .int .i64 0, .slice none 0 0, .string (⟨#[]⟩ : ByteArray)]) ?_ 1 _ rfl; (with_reducible repeat (first | refine blk_drewN ?_ _ | refine blk_drew ?_ | refine blk_alloc ?_ _)); refine blk_put (cs := #[.int .i64 0, .int .i64 0, .int .i64 0, .slice none 0 0, .string (⟨#[]⟩ : ByteArray)]) ?_ 0 _ rfl; (with_reducible repeat (first | refine blk_drewN ?_ _ | refine blk_drew ?_ | refine blk_alloc ?_ _)); exact BK106.out⟩, ⟨by repeat (first | (with_reducible first | exact HB.out | apply below_alloc | apply pw_below_drewN | apply below_drew1 | refine below_set ?_ GE106.out) | exact HB.out)⟩⟩
                  · rw [if_neg c12] at H
                    have c12b0 : decide (((rd_T87 l0 x10_1).f1) < (-1)) = false := decide_eq_false c12
                    clear c12
                    by_cases c14 : x10_1 = 0
                    · rw [if_pos c14] at H
                      have c14b0 : (x10_1 == 0) = true := beq_iff_eq.mpr c14
                      have c14b1 : (x10_1 != 0) = false := bne_eq_false_iff_eq.mpr c14
                      clear c14
                      have H' := Aside0.mk H
                      clear H
                      have hcz15_0 : w6.cell? ⟨gb106, 0, none⟩ = some (.int .i64 0) := (blk_cell BK106.out 0).trans rfl
                      have hcz15_1 : w6.cell? ⟨gb106, 1, none⟩ = some (.int .i64 0) := (blk_cell BK106.out 1).trans rfl
                      have hcz15_2 : w6.cell? ⟨gb106, 2, none⟩ = some (.int .i64 0) := (blk_cell BK106.out 2).trans rfl
                      have hcz15_3 : w6.cell? ⟨gb106, 3, none⟩ = some (.slice none 0 0) := (blk_cell BK106.out 3).trans rfl
                      have hcz15_4 : w6.cell? ⟨gb106, 4, none⟩ = some (.string (⟨#[]⟩ : ByteArray)) := (blk_cell BK106.out 4).trans rfl
                      have hfz15_0 := blk_frozen BK106.out 0
                      have hfz15_1 := blk_frozen BK106.out 1
                      have hfz15_2 := blk_frozen BK106.out 2
                      have hfz15_3 := blk_frozen BK106.out 3
                      have hfz15_4 := blk_frozen BK106.out 4
                      go_wp2
                      go_meet
                      case rel => exact ⟨_, ((((rd_T87 l0 x10_1).f2) != (-1))), (by first | rfl | (simp; done) | (simp [*]; done)), H', ⟨by have := HK1.out; first | omega | exact Nat.le_refl _⟩, ⟨by (with_reducible repeat (first | refine blk_drewN ?_ _ | refine blk_drew ?_ | refine blk_alloc ?_ _)); refine blk_put (cs := #[.int .i64 ((rd_T87 l0 x10_1).f0), .int .i64 ((rd_T87 l0 x10_1).f1), .int .i64 ((rd_T87 l0 x10_1).f2), .slice A105_3 ((rd_T87 l0 x10_1).f3).length c105_3, .string (⟨#[]⟩ : ByteArray)]) ?_ 4 _ rfl; (with_reducible repeat (first | refine blk_drewN ?_ _ | refine blk_drew ?_ | refine blk_alloc ?_ _)); refine blk_put (cs := #[.int .i64 ((rd_T87 l0 x10_1).f0), .int .i64 ((rd_T87 l0 x10_1).f1), .int .i64 ((rd_T87 l0 x10_1).f2), .slice none 0 0, .string (⟨#[]⟩ : ByteArray)]) ?_ 3 _ rfl; (with_reducible repeat (first | refine blk_drewN ?_ _ | refine blk_drew ?_ | refine blk_alloc ?_ _)); refine blk_put (cs := #[.int .i64 ((rd_T87 l0 x10_1).f0), .int .i64 ((rd_T87 l0 x10_1).f1), .int .i64 0, .slice none 0 0, .string (⟨#[]⟩ : ByteArray)]) ?_ 2 _ rfl; (with_reducible repeat (first | refine blk_drewN ?_ _ | refine blk_drew ?_ | refine blk_alloc ?_ _)); refine blk_put (cs := #[.int .i64 ((rd_T87 l0 x10_1).f0), .int .i64 0, .int .i64 0, .slice none 0 0, .string (⟨#[]⟩ : ByteArray)]) ?_ 1 _ rfl; (with_reducible repeat (first | refine blk_drewN ?_ _ | refine blk_drew ?_ | refine blk_alloc ?_ _)); refine blk_put (cs := #[.int .i64 0, .int .i64 0, .int .i64 0, .slice none 0 0, .string (⟨#[]⟩ : ByteArray)]) ?_ 0 _ rfl; (with_reducible repeat (first | refine blk_drewN ?_ _ | refine blk_drew ?_ | refine blk_alloc ?_ _)); exact BK106.out⟩, ⟨by repeat (first | (with_reducible first | exact HB.out | apply below_alloc | apply pw_below_drewN | apply below_drew1 | refine below_set ?_ GE106.out) | exact HB.out)⟩⟩
                    · rw [if_neg c14] at H
                      have c14b0 : (x10_1 == 0) = false := beq_eq_false_iff_ne.mpr c14
                      have c14b1 : (x10_1 != 0) = true := bne_iff_ne.mpr c14
                      have H' := Aside0.mk H
                      clear H
                      have hcz16_0 : w6.cell? ⟨gb106, 0, none⟩ = some (.int .i64 0) := (blk_cell BK106.out 0).trans rfl
                      have hcz16_1 : w6.cell? ⟨gb106, 1, none⟩ = some (.int .i64 0) := (blk_cell BK106.out 1).trans rfl
                      have hcz16_2 : w6.cell? ⟨gb106, 2, none⟩ = some (.int .i64 0) := (blk_cell BK106.out 2).trans rfl
                      have hcz16_3 : w6.cell? ⟨gb106, 3, none⟩ = some (.slice none 0 0) := (blk_cell BK106.out 3).trans rfl
                      have hcz16_4 : w6.cell? ⟨gb106, 4, none⟩ = some (.string (⟨#[]⟩ : ByteArray)) := (blk_cell BK106.out 4).trans rfl
                      have hfz16_0 := blk_frozen BK106.out 0
                      have hfz16_1 := blk_frozen BK106.out 1
                      have hfz16_2 := blk_frozen BK106.out 2
                      have hfz16_3 := blk_frozen BK106.out 3
                      have hfz16_4 := blk_frozen BK106.out 4
                      go_wp2
                      go_meet
                      case rel => exact ⟨_, (false), (by first | rfl | (simp; done) | (simp [*]; done)), H', ⟨by have := HK1.out; first | omega | exact Nat.le_refl _⟩, ⟨by (with_reducible repeat (first | refine blk_drewN ?_ _ | refine blk_drew ?_ | refine blk_alloc ?_ _)); refine blk_put (cs := #[.int .i64 ((rd_T87 l0 x10_1).f0), .int .i64 ((rd_T87 l0 x10_1).f1), .int .i64 ((rd_T87 l0 x10_1).f2), .slice A105_3 ((rd_T87 l0 x10_1).f3).length c105_3, .string (⟨#[]⟩ : ByteArray)]) ?_ 4 _ rfl; (with_reducible repeat (first | refine blk_drewN ?_ _ | refine blk_drew ?_ | refine blk_alloc ?_ _)); refine blk_put (cs := #[.int .i64 ((rd_T87 l0 x10_1).f0), .int .i64 ((rd_T87 l0 x10_1).f1), .int .i64 ((rd_T87 l0 x10_1).f2), .slice none 0 0, .string (⟨#[]⟩ : ByteArray)]) ?_ 3 _ rfl; (with_reducible repeat (first | refine blk_drewN ?_ _ | refine blk_drew ?_ | refine blk_alloc ?_ _)); refine blk_put (cs := #[.int .i64 ((rd_T87 l0 x10_1).f0), .int .i64 ((rd_T87 l0 x10_1).f1), .int .i64 0, .slice none 0 0, .string (⟨#[]⟩ : ByteArray)]) ?_ 2 _ rfl; (with_reducible repeat (first | refine blk_drewN ?_ _ | refine blk_drew ?_ | refine blk_alloc ?_ _)); refine blk_put (cs := #[.int .i64 ((rd_T87 l0 x10_1).f0), .int .i64 0, .int .i64 0, .slice none 0 0, .string (⟨#[]⟩ : ByteArray)]) ?_ 1 _ rfl; (with_reducible repeat (first | refine blk_drewN ?_ _ | refine blk_drew ?_ | refine blk_alloc ?_ _)); refine blk_put (cs := #[.int .i64 0, .int .i64 0, .int .i64 0, .slice none 0 0, .string (⟨#[]⟩ : ByteArray)]) ?_ 0 _ rfl; (with_reducible repeat (first | refine blk_drewN ?_ _ | refine blk_drew ?_ | refine blk_alloc ?_ _)); exact BK106.out⟩, ⟨by repeat (first | (with_reducible first | exact HB.out | apply below_alloc | apply pw_below_drewN | apply below_drew1 | refine below_set ?_ GE106.out) | exact HB.out)⟩⟩
            case rest =>
              clear HC5
              try clear c1
              try clear p1
              try clear q1
              try clear hx1
              try clear c2
              try clear c2b0
              try clear p2
              try clear c3
              try clear c3b0
              try clear c4
              try clear c4b0
              try clear c8
              try clear c8b0
              try clear c10
              try clear c10b0
              try clear p10
              try clear q10
              try clear hx10
              try clear c12
              try clear c12b0
              try clear c14
              try clear c14b0
              try clear c14b1
              try clear hcz11_0
              try clear hcz11_1
              try clear hcz11_2
              try clear hcz11_3
              try clear hcz11_4
              try clear hcz13_0
              try clear hcz13_1
              try clear hcz13_2
              try clear hcz13_3
              try clear hcz13_4
              try clear hcz15_0
              try clear hcz15_1
              try clear hcz15_2
              try clear hcz15_3
              try clear hcz15_4
              try clear hcz16_0
              try clear hcz16_1
              try clear hcz16_2
              try clear hcz16_3
              try clear hcz16_4
              try clear hcz7_0
              try clear hcz7_1
              try clear hcz7_2
              try clear hcz7_3
              try clear hcz7_4
              try clear hcz9_0
              try clear hcz9_1
              try clear hcz9_2
              try clear hcz9_3
              try clear hcz9_4
              try clear hfz11_0
              try clear hfz11_1
              try clear hfz11_2
              try clear hfz11_3
              try clear hfz11_4
              try clear hfz13_0
              try clear hfz13_1
              try clear hfz13_2
              try clear hfz13_3
              try clear hfz13_4
              try clear hfz15_0
              try clear hfz15_1
              try clear hfz15_2
              try clear hfz15_3
              try clear hfz15_4
              try clear hfz16_0
              try clear hfz16_1
              try clear hfz16_2
              try clear hfz16_3
              try clear hfz16_4
              try clear hfz7_0
              try clear hfz7_1
              try clear hfz7_2
              try clear hfz7_3
              try clear hfz7_4
              try clear hfz9_0
              try clear hfz9_1
              try clear hfz9_2
              try clear hfz9_3
              try clear hfz9_4
              try clear hx105_0
              try clear hx105_1
              try clear hx105_2
              try clear hx105_3
              try clear hx105_4
              try clear p105
              try clear q105
              obtain ⟨kq, x36_4, rfl, HA, HJ4, BK106, HB⟩ := hcut
              cases kq with
              | zero => exact absurd HA.out (by simp [clerestoryref3_BoxesCheck.j1])
              | succ kj4 =>
                have H := HA.out
                clear HA
                simp only [clerestoryref3_BoxesCheck.j1] at H
                by_cases c17 : x36_4 = true
                · subst c17
                  have H1 : (some false) = some r := by rw [if_pos rfl] at H; exact H
                  clear H
                  have H := H1
                  clear H1
                  obtain rfl := Option.some.inj H
                  go_wp2
                  go_ret
                  exact ⟨by first | rfl | (simp [errW_none, errW_some] <;> rfl) | (simp [*, errW_none, errW_some] <;> rfl), by repeat (first | (with_reducible first | exact HB.out | apply below_alloc | apply pw_below_drewN | apply below_drew1 | refine below_set ?_ GE106.out) | exact HB.out)⟩
                · replace c17 := Bool.eq_false_iff.mpr c17
                  subst c17
                  have H1 : (clerestoryref3_BoxesCheck.l1 kj4 l0 x3_1 x10_1 l0 (l0.length : Int) x10_1 ((rd_T87 l0 x10_1).f3) (((rd_T87 l0 x10_1).f3).length : Int) 0 ((rd_T87 l0 x10_1).f0) ((rd_T87 l0 x10_1).f1) ((rd_T87 l0 x10_1).f2) ((rd_T87 l0 x10_1).f3) ((rd_T87 l0 x10_1).f4)) = some r := by rw [if_neg (show ¬ (false = true) by decide)] at H; exact H
                  clear H
                  have H := H1
                  clear H1
                  have H' := Aside0.mk H
                  clear H
                  have hcz18_0 : wc.cell? ⟨gb106, 0, none⟩ = some (.int .i64 ((rd_T87 l0 x10_1).f0)) := (blk_cell BK106.out 0).trans rfl
                  have hcz18_1 : wc.cell? ⟨gb106, 1, none⟩ = some (.int .i64 ((rd_T87 l0 x10_1).f1)) := (blk_cell BK106.out 1).trans rfl
                  have hcz18_2 : wc.cell? ⟨gb106, 2, none⟩ = some (.int .i64 ((rd_T87 l0 x10_1).f2)) := (blk_cell BK106.out 2).trans rfl
                  have hcz18_3 : wc.cell? ⟨gb106, 3, none⟩ = some (.slice A105_3 ((rd_T87 l0 x10_1).f3).length c105_3) := (blk_cell BK106.out 3).trans rfl
                  have hcz18_4 : wc.cell? ⟨gb106, 4, none⟩ = some (.string ((rd_T87 l0 x10_1).f4)) := (blk_cell BK106.out 4).trans rfl
                  have hfz18_0 := blk_frozen BK106.out 0
                  have hfz18_1 := blk_frozen BK106.out 1
                  have hfz18_2 := blk_frozen BK106.out 2
                  have hfz18_3 := blk_frozen BK106.out 3
                  have hfz18_4 := blk_frozen BK106.out 4
                  go_wp2
                  go_loopg [40] kj4 (fun kq v40 w' => ∃ (x40_3 : Int), v40 = .int .i64 x40_3 ∧ Aside0 (clerestoryref3_BoxesCheck.l1 kq l0 x3_1 x10_1 l0 (l0.length : Int) x10_1 ((rd_T87 l0 x10_1).f3) (((rd_T87 l0 x10_1).f3).length : Int) x40_3 ((rd_T87 l0 x10_1).f0) ((rd_T87 l0 x10_1).f1) ((rd_T87 l0 x10_1).f2) ((rd_T87 l0 x10_1).f3) ((rd_T87 l0 x10_1).f4) = some r) ∧ Aside0 (kq ≤ kj4) ∧ Aside0 (w'.heap[gb106]? = some (.cells #[.int .i64 ((rd_T87 l0 x10_1).f0), .int .i64 ((rd_T87 l0 x10_1).f1), .int .i64 ((rd_T87 l0 x10_1).f2), (.slice A105_3 ((rd_T87 l0 x10_1).f3).length c105_3), .string ((rd_T87 l0 x10_1).f4)] 87 (0, 0))) ∧ Aside0 (Below w.heap.size w w'))
                  case atStart => exact ⟨(0), (by first | rfl | (simp; done) | (simp [*]; done)), H', ⟨Nat.le_refl _⟩, ⟨by (with_reducible repeat (first | refine blk_drewN ?_ _ | refine blk_drew ?_ | refine blk_alloc ?_ _)); exact BK106.out⟩, ⟨by repeat (first | (with_reducible first | exact HB.out | apply below_alloc | apply pw_below_drewN | apply below_drew1 | refine below_set ?_ GE106.out) | exact HB.out)⟩⟩
                  case round =>
                    clear H'
                    try clear c1
                    try clear p1
                    try clear q1
                    try clear hx1
                    try clear c2
                    try clear c2b0
                    try clear p2
                    try clear c3
                    try clear c3b0
                    try clear c4
                    try clear c4b0
                    try clear c8
                    try clear c8b0
                    try clear c10
                    try clear c10b0
                    try clear p10
                    try clear q10
                    try clear hx10
                    try clear c12
                    try clear c12b0
                    try clear c14
                    try clear c14b0
                    try clear c14b1
                    try clear c17
                    try clear hcz11_0
                    try clear hcz11_1
                    try clear hcz11_2
                    try clear hcz11_3
                    try clear hcz11_4
                    try clear hcz13_0
                    try clear hcz13_1
                    try clear hcz13_2
                    try clear hcz13_3
                    try clear hcz13_4
                    try clear hcz15_0
                    try clear hcz15_1
                    try clear hcz15_2
                    try clear hcz15_3
                    try clear hcz15_4
                    try clear hcz16_0
                    try clear hcz16_1
                    try clear hcz16_2
                    try clear hcz16_3
                    try clear hcz16_4
                    try clear hcz18_0
                    try clear hcz18_1
                    try clear hcz18_2
                    try clear hcz18_3
                    try clear hcz18_4
                    try clear hcz7_0
                    try clear hcz7_1
                    try clear hcz7_2
                    try clear hcz7_3
                    try clear hcz7_4
                    try clear hcz9_0
                    try clear hcz9_1
                    try clear hcz9_2
                    try clear hcz9_3
                    try clear hcz9_4
                    try clear hfz11_0
                    try clear hfz11_1
                    try clear hfz11_2
                    try clear hfz11_3
                    try clear hfz11_4
                    try clear hfz13_0
                    try clear hfz13_1
                    try clear hfz13_2
                    try clear hfz13_3
                    try clear hfz13_4
                    try clear hfz15_0
                    try clear hfz15_1
                    try clear hfz15_2
                    try clear hfz15_3
                    try clear hfz15_4
                    try clear hfz16_0
                    try clear hfz16_1
                    try clear hfz16_2
                    try clear hfz16_3
                    try clear hfz16_4
                    try clear hfz18_0
                    try clear hfz18_1
                    try clear hfz18_2
                    try clear hfz18_3
                    try clear hfz18_4
                    try clear hfz7_0
                    try clear hfz7_1
                    try clear hfz7_2
                    try clear hfz7_3
                    try clear hfz7_4
                    try clear hfz9_0
                    try clear hfz9_1
                    try clear hfz9_2
                    try clear hfz9_3
                    try clear hfz9_4
                    try clear hx105_0
                    try clear hx105_1
                    try clear hx105_2
                    try clear hx105_3
                    try clear hx105_4
                    try clear p1
                    try clear p10
                    try clear p105
                    try clear p2
                    try clear q1
                    try clear q10
                    try clear q105
                    obtain ⟨x40_3, rfl, HA, HK3, BK106, HB⟩ := hrel
                    cases gk with
                    | zero => exact absurd HA.out (by simp [clerestoryref3_BoxesCheck.l1])
                    | succ k3 =>
                      have H := HA.out
                      clear HA
                      simp only [clerestoryref3_BoxesCheck.l1] at H
                      by_cases c19 : x40_3 < (((rd_T87 l0 x10_1).f3).length : Int)
                      · rw [if_pos c19] at H
                        have c19b0 : decide (x40_3 < (((rd_T87 l0 x10_1).f3).length : Int)) = true := decide_eq_true c19
                        clear c19
                        by_cases c20 : 0 ≤ x40_3
                        · rw [if_pos c20] at H
                          have c20b0 : decide (0 ≤ x40_3) = true := decide_eq_true c20
                          clear c20
                          by_cases c21 : x40_3 < (((rd_T87 l0 x10_1).f3).length : Int)
                          · rw [if_pos c21] at H
                            have c21b0 : decide (x40_3 < (((rd_T87 l0 x10_1).f3).length : Int)) = true := decide_eq_true c21
                            clear c21
                            by_cases c22 : (rd ((rd_T87 l0 x10_1).f3) x40_3) ≤ x10_1
                            · rw [if_pos c22] at H
                              have c22b0 : decide ((rd ((rd_T87 l0 x10_1).f3) x40_3) ≤ x10_1) = true := decide_eq_true c22
                              clear c22
                              obtain rfl := Option.some.inj H
                              have p107 : 0 ≤ (x40_3 : Int) := of_decide_eq_true (by first | (with_reducible assumption) | assumption)
                              have q107 : x40_3 < (((rd_T87 l0 x10_1).f3).length : Int) := of_decide_eq_true (by first | (with_reducible assumption) | assumption)
                              obtain ⟨ad107, e107, hx107_0⟩ := Kd.at_int HR105_3.out x40_3 p107 q107
                              cases e107
                              replace hx107_0 := (HB.out.cell (World.block_lt_of_cell? w _ hx107_0)).trans hx107_0
                              replace p107 := eq_true p107
                              replace q107 := eq_true q107
                              go_wp2
                              go_ret
                              exact ⟨by first | rfl | (simp [errW_none, errW_some] <;> rfl) | (simp [*, errW_none, errW_some] <;> rfl), by repeat (first | (with_reducible first | exact HB.out | apply below_alloc | apply pw_below_drewN | apply below_drew1 | refine below_set ?_ GE106.out) | exact HB.out)⟩
                            · rw [if_neg c22] at H
                              have c22b0 : decide ((rd ((rd_T87 l0 x10_1).f3) x40_3) ≤ x10_1) = false := decide_eq_false c22
                              clear c22
                              by_cases c23 : (rd ((rd_T87 l0 x10_1).f3) x40_3) ≥ (l0.length : Int)
                              · rw [if_pos c23] at H
                                have c23b0 : decide ((l0.length : Int) ≤ (rd ((rd_T87 l0 x10_1).f3) x40_3)) = true := decide_eq_true c23
                                clear c23
                                obtain rfl := Option.some.inj H
                                have p107 : 0 ≤ (x40_3 : Int) := of_decide_eq_true (by first | (with_reducible assumption) | assumption)
                                have q107 : x40_3 < (((rd_T87 l0 x10_1).f3).length : Int) := of_decide_eq_true (by first | (with_reducible assumption) | assumption)
                                obtain ⟨ad107, e107, hx107_0⟩ := Kd.at_int HR105_3.out x40_3 p107 q107
                                cases e107
                                replace hx107_0 := (HB.out.cell (World.block_lt_of_cell? w _ hx107_0)).trans hx107_0
                                replace p107 := eq_true p107
                                replace q107 := eq_true q107
                                go_wp2
                                go_ret
                                exact ⟨by first | rfl | (simp [errW_none, errW_some] <;> rfl) | (simp [*, errW_none, errW_some] <;> rfl), by repeat (first | (with_reducible first | exact HB.out | apply below_alloc | apply pw_below_drewN | apply below_drew1 | refine below_set ?_ GE106.out) | exact HB.out)⟩
                              · rw [if_neg c23] at H
                                have c23b0 : decide ((l0.length : Int) ≤ (rd ((rd_T87 l0 x10_1).f3) x40_3)) = false := decide_eq_false c23
                                clear c23
                                by_cases c24 : x40_3 > 0
                                · rw [if_pos c24] at H
                                  have c24b0 : decide (0 < x40_3) = true := decide_eq_true c24
                                  clear c24
                                  obtain ⟨ji25, hji25⟩ : ∃ j_ : Int, (wrap64 (x40_3 - 1)) = j_ := ⟨_, rfl⟩
                                  replace H : (if 0 ≤ (ji25) then (if (ji25) < (((rd_T87 l0 x10_1).f3).length : Int) then (if (rd ((rd_T87 l0 x10_1).f3) x40_3) ≤ (rd ((rd_T87 l0 x10_1).f3) (ji25)) then (some false) else (if 0 ≤ (rd ((rd_T87 l0 x10_1).f3) x40_3) then (if (rd ((rd_T87 l0 x10_1).f3) x40_3) < (l0.length : Int) then (if ((rd_T87 l0 (rd ((rd_T87 l0 x10_1).f3) x40_3)).f2) = x10_1 then (clerestoryref3_BoxesCheck.l1 k3 l0 x3_1 x10_1 l0 (l0.length : Int) x10_1 ((rd_T87 l0 x10_1).f3) (((rd_T87 l0 x10_1).f3).length : Int) (wrap64 (x40_3 + 1)) ((rd_T87 l0 x10_1).f0) ((rd_T87 l0 x10_1).f1) ((rd_T87 l0 x10_1).f2) ((rd_T87 l0 x10_1).f3) ((rd_T87 l0 x10_1).f4)) else (some false)) else (none)) else (none))) else (none)) else (none)) = some r := by first | (rw [hji25] at H; exact H) | (simp only [hji25] at H ⊢; exact H)
                                  have hji25w : (IntKind.i64.wrap (x40_3 - 1)) = ji25 := (i64_w _).trans hji25
                                  by_cases c26 : 0 ≤ (ji25)
                                  · rw [if_pos c26] at H
                                    have c26b0 : decide (0 ≤ (ji25)) = true := decide_eq_true c26
                                    clear c26
                                    by_cases c27 : (ji25) < (((rd_T87 l0 x10_1).f3).length : Int)
                                    · rw [if_pos c27] at H
                                      have c27b0 : decide ((ji25) < (((rd_T87 l0 x10_1).f3).length : Int)) = true := decide_eq_true c27
                                      clear c27
                                      by_cases c28 : (rd ((rd_T87 l0 x10_1).f3) x40_3) ≤ (rd ((rd_T87 l0 x10_1).f3) (ji25))
                                      · rw [if_pos c28] at H
                                        have c28b0 : decide ((rd ((rd_T87 l0 x10_1).f3) x40_3) ≤ (rd ((rd_T87 l0 x10_1).f3) (ji25))) = true := decide_eq_true c28
                                        clear c28
                                        obtain rfl := Option.some.inj H
                                        have p107 : 0 ≤ (x40_3 : Int) := of_decide_eq_true (by first | (with_reducible assumption) | assumption)
                                        have q107 : x40_3 < (((rd_T87 l0 x10_1).f3).length : Int) := of_decide_eq_true (by first | (with_reducible assumption) | assumption)
                                        obtain ⟨ad107, e107, hx107_0⟩ := Kd.at_int HR105_3.out x40_3 p107 q107
                                        cases e107
                                        replace hx107_0 := (HB.out.cell (World.block_lt_of_cell? w _ hx107_0)).trans hx107_0
                                        replace p107 := eq_true p107
                                        replace q107 := eq_true q107
                                        have hcz29_0 : wr.cell? ⟨gb106, 0, none⟩ = some (.int .i64 ((rd_T87 l0 x10_1).f0)) := (blk_cell BK106.out 0).trans rfl
                                        have hcz29_1 : wr.cell? ⟨gb106, 1, none⟩ = some (.int .i64 ((rd_T87 l0 x10_1).f1)) := (blk_cell BK106.out 1).trans rfl
                                        have hcz29_2 : wr.cell? ⟨gb106, 2, none⟩ = some (.int .i64 ((rd_T87 l0 x10_1).f2)) := (blk_cell BK106.out 2).trans rfl
                                        have hcz29_3 : wr.cell? ⟨gb106, 3, none⟩ = some (.slice (some ad107) ((rd_T87 l0 x10_1).f3).length c105_3) := (blk_cell BK106.out 3).trans rfl
                                        have hcz29_4 : wr.cell? ⟨gb106, 4, none⟩ = some (.string ((rd_T87 l0 x10_1).f4)) := (blk_cell BK106.out 4).trans rfl
                                        have hfz29_0 := blk_frozen BK106.out 0
                                        have hfz29_1 := blk_frozen BK106.out 1
                                        have hfz29_2 := blk_frozen BK106.out 2
                                        have hfz29_3 := blk_frozen BK106.out 3
                                        have hfz29_4 := blk_frozen BK106.out 4
                                        have p108 : 0 ≤ ((ji25) : Int) := of_decide_eq_true (by first | (with_reducible assumption) | assumption)
                                        have q108 : (ji25) < (((rd_T87 l0 x10_1).f3).length : Int) := of_decide_eq_true (by first | (with_reducible assumption) | assumption)
                                        obtain ⟨ad108, e108, hx108_0⟩ := Kd.at_int HR105_3.out (ji25) p108 q108
                                        obtain rfl : ad107 = ad108 := (by injection e108)
                                        replace hx108_0 := (HB.out.cell (World.block_lt_of_cell? w _ hx108_0)).trans hx108_0
                                        replace p108 := eq_true p108
                                        replace q108 := eq_true q108
                                        go_wp2
                                        go_ret
                                        exact ⟨by first | rfl | (simp [errW_none, errW_some] <;> rfl) | (simp only [← hji25]; first | rfl | (simp [errW_none, errW_some] <;> rfl)) | (simp [*, errW_none, errW_some] <;> rfl), by repeat (first | (with_reducible first | exact HB.out | apply below_alloc | apply pw_below_drewN | apply below_drew1 | refine below_set ?_ GE106.out) | exact HB.out)⟩
                                      · rw [if_neg c28] at H
                                        have c28b0 : decide ((rd ((rd_T87 l0 x10_1).f3) x40_3) ≤ (rd ((rd_T87 l0 x10_1).f3) (ji25))) = false := decide_eq_false c28
                                        clear c28
                                        by_cases c30 : 0 ≤ (rd ((rd_T87 l0 x10_1).f3) x40_3)
                                        · rw [if_pos c30] at H
                                          have c30b0 : decide (0 ≤ (rd ((rd_T87 l0 x10_1).f3) x40_3)) = true := decide_eq_true c30
                                          clear c30
                                          by_cases c31 : (rd ((rd_T87 l0 x10_1).f3) x40_3) < (l0.length : Int)
                                          · rw [if_pos c31] at H
                                            have c31b0 : decide ((rd ((rd_T87 l0 x10_1).f3) x40_3) < (l0.length : Int)) = true := decide_eq_true c31
                                            clear c31
                                            by_cases c32 : ((rd_T87 l0 (rd ((rd_T87 l0 x10_1).f3) x40_3)).f2) = x10_1
                                            · rw [if_pos c32] at H
                                              have c32b0 : (((rd_T87 l0 (rd ((rd_T87 l0 x10_1).f3) x40_3)).f2) == x10_1) = true := beq_iff_eq.mpr c32
                                              have c32b1 : (((rd_T87 l0 (rd ((rd_T87 l0 x10_1).f3) x40_3)).f2) != x10_1) = false := bne_eq_false_iff_eq.mpr c32
                                              clear c32
                                              have H' := Aside0.mk H
                                              clear H
                                              have p107 : 0 ≤ (x40_3 : Int) := of_decide_eq_true (by first | (with_reducible assumption) | assumption)
                                              have q107 : x40_3 < (((rd_T87 l0 x10_1).f3).length : Int) := of_decide_eq_true (by first | (with_reducible assumption) | assumption)
                                              obtain ⟨ad107, e107, hx107_0⟩ := Kd.at_int HR105_3.out x40_3 p107 q107
                                              cases e107
                                              replace hx107_0 := (HB.out.cell (World.block_lt_of_cell? w _ hx107_0)).trans hx107_0
                                              replace p107 := eq_true p107
                                              replace q107 := eq_true q107
                                              have hcz33_0 : wr.cell? ⟨gb106, 0, none⟩ = some (.int .i64 ((rd_T87 l0 x10_1).f0)) := (blk_cell BK106.out 0).trans rfl
                                              have hcz33_1 : wr.cell? ⟨gb106, 1, none⟩ = some (.int .i64 ((rd_T87 l0 x10_1).f1)) := (blk_cell BK106.out 1).trans rfl
                                              have hcz33_2 : wr.cell? ⟨gb106, 2, none⟩ = some (.int .i64 ((rd_T87 l0 x10_1).f2)) := (blk_cell BK106.out 2).trans rfl
                                              have hcz33_3 : wr.cell? ⟨gb106, 3, none⟩ = some (.slice (some ad107) ((rd_T87 l0 x10_1).f3).length c105_3) := (blk_cell BK106.out 3).trans rfl
                                              have hcz33_4 : wr.cell? ⟨gb106, 4, none⟩ = some (.string ((rd_T87 l0 x10_1).f4)) := (blk_cell BK106.out 4).trans rfl
                                              have hfz33_0 := blk_frozen BK106.out 0
                                              have hfz33_1 := blk_frozen BK106.out 1
                                              have hfz33_2 := blk_frozen BK106.out 2
                                              have hfz33_3 := blk_frozen BK106.out 3
                                              have hfz33_4 := blk_frozen BK106.out 4
                                              have p108 : 0 ≤ ((ji25) : Int) := of_decide_eq_true (by first | (with_reducible assumption) | assumption)
                                              have q108 : (ji25) < (((rd_T87 l0 x10_1).f3).length : Int) := of_decide_eq_true (by first | (with_reducible assumption) | assumption)
                                              obtain ⟨ad108, e108, hx108_0⟩ := Kd.at_int HR105_3.out (ji25) p108 q108
                                              obtain rfl : ad107 = ad108 := (by injection e108)
                                              replace hx108_0 := (HB.out.cell (World.block_lt_of_cell? w _ hx108_0)).trans hx108_0
                                              replace p108 := eq_true p108
                                              replace q108 := eq_true q108
                                              have p109 : 0 ≤ ((rd ((rd_T87 l0 x10_1).f3) x40_3) : Int) := of_decide_eq_true (by first | (with_reducible assumption) | assumption)
                                              have q109 : (rd ((rd_T87 l0 x10_1).f3) x40_3) < (l0.length : Int) := of_decide_eq_true (by first | (with_reducible assumption) | assumption)
                                              obtain ⟨ad109, A109_3, c109_3, e109, hx109_0, hx109_1, hx109_2, hx109_3, hx109_4, hl109_3, hi109_3⟩ := at_T87 HR0.out (rd ((rd_T87 l0 x10_1).f3) x40_3) p109 q109
                                              obtain rfl : ad105 = ad109 := (by injection e109)
                                              replace hx109_0 := (HB.out.cell (World.block_lt_of_cell? w _ hx109_0)).trans hx109_0
                                              replace hx109_1 := (HB.out.cell (World.block_lt_of_cell? w _ hx109_1)).trans hx109_1
                                              replace hx109_2 := (HB.out.cell (World.block_lt_of_cell? w _ hx109_2)).trans hx109_2
                                              replace hx109_3 := (HB.out.cell (World.block_lt_of_cell? w _ hx109_3)).trans hx109_3
                                              replace hx109_4 := (HB.out.cell (World.block_lt_of_cell? w _ hx109_4)).trans hx109_4
                                              have HR109_3 := Aside0.mk hi109_3
                                              have HC109_3 := Aside0.mk hl109_3
                                              clear hi109_3 hl109_3
                                              replace p109 := eq_true p109
                                              replace q109 := eq_true q109
                                              go_wp2
                                              go_roundg k3
                                              case measure => have := HK1.out; have := HJ4.out; have := HK3.out; omega
                                              case rel => exact ⟨(wrap64 (x40_3 + 1)), (by first | rfl | (simp; done) | (simp [*]; done)), H', ⟨by have := HK1.out; have := HJ4.out; have := HK3.out; omega⟩, ⟨by (with_reducible repeat (first | refine blk_drewN ?_ _ | refine blk_drew ?_ | refine blk_alloc ?_ _)); exact BK106.out⟩, ⟨by repeat (first | (with_reducible first | exact HB.out | apply below_alloc | apply pw_below_drewN | apply below_drew1 | refine below_set ?_ GE106.out) | exact HB.out)⟩⟩
                                            · rw [if_neg c32] at H
                                              have c32b0 : (((rd_T87 l0 (rd ((rd_T87 l0 x10_1).f3) x40_3)).f2) == x10_1) = false := beq_eq_false_iff_ne.mpr c32
                                              have c32b1 : (((rd_T87 l0 (rd ((rd_T87 l0 x10_1).f3) x40_3)).f2) != x10_1) = true := bne_iff_ne.mpr c32
                                              obtain rfl := Option.some.inj H
                                              have p107 : 0 ≤ (x40_3 : Int) := of_decide_eq_true (by first | (with_reducible assumption) | assumption)
                                              have q107 : x40_3 < (((rd_T87 l0 x10_1).f3).length : Int) := of_decide_eq_true (by first | (with_reducible assumption) | assumption)
                                              obtain ⟨ad107, e107, hx107_0⟩ := Kd.at_int HR105_3.out x40_3 p107 q107
                                              cases e107
                                              replace hx107_0 := (HB.out.cell (World.block_lt_of_cell? w _ hx107_0)).trans hx107_0
                                              replace p107 := eq_true p107
                                              replace q107 := eq_true q107
                                              have hcz34_0 : wr.cell? ⟨gb106, 0, none⟩ = some (.int .i64 ((rd_T87 l0 x10_1).f0)) := (blk_cell BK106.out 0).trans rfl
                                              have hcz34_1 : wr.cell? ⟨gb106, 1, none⟩ = some (.int .i64 ((rd_T87 l0 x10_1).f1)) := (blk_cell BK106.out 1).trans rfl
                                              have hcz34_2 : wr.cell? ⟨gb106, 2, none⟩ = some (.int .i64 ((rd_T87 l0 x10_1).f2)) := (blk_cell BK106.out 2).trans rfl
                                              have hcz34_3 : wr.cell? ⟨gb106, 3, none⟩ = some (.slice (some ad107) ((rd_T87 l0 x10_1).f3).length c105_3) := (blk_cell BK106.out 3).trans rfl
                                              have hcz34_4 : wr.cell? ⟨gb106, 4, none⟩ = some (.string ((rd_T87 l0 x10_1).f4)) := (blk_cell BK106.out 4).trans rfl
                                              have hfz34_0 := blk_frozen BK106.out 0
                                              have hfz34_1 := blk_frozen BK106.out 1
                                              have hfz34_2 := blk_frozen BK106.out 2
                                              have hfz34_3 := blk_frozen BK106.out 3
                                              have hfz34_4 := blk_frozen BK106.out 4
                                              have p108 : 0 ≤ ((ji25) : Int) := of_decide_eq_true (by first | (with_reducible assumption) | assumption)
                                              have q108 : (ji25) < (((rd_T87 l0 x10_1).f3).length : Int) := of_decide_eq_true (by first | (with_reducible assumption) | assumption)
                                              obtain ⟨ad108, e108, hx108_0⟩ := Kd.at_int HR105_3.out (ji25) p108 q108
                                              obtain rfl : ad107 = ad108 := (by injection e108)
                                              replace hx108_0 := (HB.out.cell (World.block_lt_of_cell? w _ hx108_0)).trans hx108_0
                                              replace p108 := eq_true p108
                                              replace q108 := eq_true q108
                                              have p109 : 0 ≤ ((rd ((rd_T87 l0 x10_1).f3) x40_3) : Int) := of_decide_eq_true (by first | (with_reducible assumption) | assumption)
                                              have q109 : (rd ((rd_T87 l0 x10_1).f3) x40_3) < (l0.length : Int) := of_decide_eq_true (by first | (with_reducible assumption) | assumption)
                                              obtain ⟨ad109, A109_3, c109_3, e109, hx109_0, hx109_1, hx109_2, hx109_3, hx109_4, hl109_3, hi109_3⟩ := at_T87 HR0.out (rd ((rd_T87 l0 x10_1).f3) x40_3) p109 q109
                                              obtain rfl : ad105 = ad109 := (by injection e109)
                                              replace hx109_0 := (HB.out.cell (World.block_lt_of_cell? w _ hx109_0)).trans hx109_0
                                              replace hx109_1 := (HB.out.cell (World.block_lt_of_cell? w _ hx109_1)).trans hx109_1
                                              replace hx109_2 := (HB.out.cell (World.block_lt_of_cell? w _ hx109_2)).trans hx109_2
                                              replace hx109_3 := (HB.out.cell (World.block_lt_of_cell? w _ hx109_3)).trans hx109_3
                                              replace hx109_4 := (HB.out.cell (World.block_lt_of_cell? w _ hx109_4)).trans hx109_4
                                              have HR109_3 := Aside0.mk hi109_3
                                              have HC109_3 := Aside0.mk hl109_3
                                              clear hi109_3 hl109_3
                                              replace p109 := eq_true p109
                                              replace q109 := eq_true q109
                                              go_wp2
                                              go_ret
                                              exact ⟨by first | rfl | (simp [errW_none, errW_some] <;> rfl) | (simp only [← hji25]; first | rfl | (simp [errW_none, errW_some] <;> rfl)) | (simp [*, errW_none, errW_some] <;> rfl), by repeat (first | (with_reducible first | exact HB.out | apply below_alloc | apply pw_below_drewN | apply below_drew1 | refine below_set ?_ GE106.out) | exact HB.out)⟩
                                          · rw [if_neg c31] at H
                                            exact absurd H (by simp)
                                        · rw [if_neg c30] at H
                                          exact absurd H (by simp)
                                    · rw [if_neg c27] at H
                                      exact absurd H (by simp)
                                  · rw [if_neg c26] at H
                                    exact absurd H (by simp)
                                · rw [if_neg c24] at H
                                  have c24b0 : decide (0 < x40_3) = false := decide_eq_false c24
                                  clear c24
                                  by_cases c35 : 0 ≤ (rd ((rd_T87 l0 x10_1).f3) x40_3)
                                  · rw [if_pos c35] at H
                                    have c35b0 : decide (0 ≤ (rd ((rd_T87 l0 x10_1).f3) x40_3)) = true := decide_eq_true c35
                                    clear c35
                                    by_cases c36 : (rd ((rd_T87 l0 x10_1).f3) x40_3) < (l0.length : Int)
                                    · rw [if_pos c36] at H
                                      have c36b0 : decide ((rd ((rd_T87 l0 x10_1).f3) x40_3) < (l0.length : Int)) = true := decide_eq_true c36
                                      clear c36
                                      by_cases c37 : ((rd_T87 l0 (rd ((rd_T87 l0 x10_1).f3) x40_3)).f2) = x10_1
                                      · rw [if_pos c37] at H
                                        have c37b0 : (((rd_T87 l0 (rd ((rd_T87 l0 x10_1).f3) x40_3)).f2) == x10_1) = true := beq_iff_eq.mpr c37
                                        have c37b1 : (((rd_T87 l0 (rd ((rd_T87 l0 x10_1).f3) x40_3)).f2) != x10_1) = false := bne_eq_false_iff_eq.mpr c37
                                        clear c37
                                        have H' := Aside0.mk H
                                        clear H
                                        have p107 : 0 ≤ (x40_3 : Int) := of_decide_eq_true (by first | (with_reducible assumption) | assumption)
                                        have q107 : x40_3 < (((rd_T87 l0 x10_1).f3).length : Int) := of_decide_eq_true (by first | (with_reducible assumption) | assumption)
                                        obtain ⟨ad107, e107, hx107_0⟩ := Kd.at_int HR105_3.out x40_3 p107 q107
                                        cases e107
                                        replace hx107_0 := (HB.out.cell (World.block_lt_of_cell? w _ hx107_0)).trans hx107_0
                                        replace p107 := eq_true p107
                                        replace q107 := eq_true q107
                                        have p110 : 0 ≤ ((rd ((rd_T87 l0 x10_1).f3) x40_3) : Int) := of_decide_eq_true (by first | (with_reducible assumption) | assumption)
                                        have q110 : (rd ((rd_T87 l0 x10_1).f3) x40_3) < (l0.length : Int) := of_decide_eq_true (by first | (with_reducible assumption) | assumption)
                                        obtain ⟨ad110, A110_3, c110_3, e110, hx110_0, hx110_1, hx110_2, hx110_3, hx110_4, hl110_3, hi110_3⟩ := at_T87 HR0.out (rd ((rd_T87 l0 x10_1).f3) x40_3) p110 q110
                                        obtain rfl : ad105 = ad110 := (by injection e110)
                                        replace hx110_0 := (HB.out.cell (World.block_lt_of_cell? w _ hx110_0)).trans hx110_0
                                        replace hx110_1 := (HB.out.cell (World.block_lt_of_cell? w _ hx110_1)).trans hx110_1
                                        replace hx110_2 := (HB.out.cell (World.block_lt_of_cell? w _ hx110_2)).trans hx110_2
                                        replace hx110_3 := (HB.out.cell (World.block_lt_of_cell? w _ hx110_3)).trans hx110_3
                                        replace hx110_4 := (HB.out.cell (World.block_lt_of_cell? w _ hx110_4)).trans hx110_4
                                        have HR110_3 := Aside0.mk hi110_3
                                        have HC110_3 := Aside0.mk hl110_3
                                        clear hi110_3 hl110_3
                                        replace p110 := eq_true p110
                                        replace q110 := eq_true q110
                                        go_wp2
                                        go_roundg k3
                                        case measure => have := HK1.out; have := HJ4.out; have := HK3.out; omega
                                        case rel => exact ⟨(wrap64 (x40_3 + 1)), (by first | rfl | (simp; done) | (simp [*]; done)), H', ⟨by have := HK1.out; have := HJ4.out; have := HK3.out; omega⟩, ⟨by (with_reducible repeat (first | refine blk_drewN ?_ _ | refine blk_drew ?_ | refine blk_alloc ?_ _)); exact BK106.out⟩, ⟨by repeat (first | (with_reducible first | exact HB.out | apply below_alloc | apply pw_below_drewN | apply below_drew1 | refine below_set ?_ GE106.out) | exact HB.out)⟩⟩
                                      · rw [if_neg c37] at H
                                        have c37b0 : (((rd_T87 l0 (rd ((rd_T87 l0 x10_1).f3) x40_3)).f2) == x10_1) = false := beq_eq_false_iff_ne.mpr c37
                                        have c37b1 : (((rd_T87 l0 (rd ((rd_T87 l0 x10_1).f3) x40_3)).f2) != x10_1) = true := bne_iff_ne.mpr c37
                                        obtain rfl := Option.some.inj H
                                        have p107 : 0 ≤ (x40_3 : Int) := of_decide_eq_true (by first | (with_reducible assumption) | assumption)
                                        have q107 : x40_3 < (((rd_T87 l0 x10_1).f3).length : Int) := of_decide_eq_true (by first | (with_reducible assumption) | assumption)
                                        obtain ⟨ad107, e107, hx107_0⟩ := Kd.at_int HR105_3.out x40_3 p107 q107
                                        cases e107
                                        replace hx107_0 := (HB.out.cell (World.block_lt_of_cell? w _ hx107_0)).trans hx107_0
                                        replace p107 := eq_true p107
                                        replace q107 := eq_true q107
                                        have p110 : 0 ≤ ((rd ((rd_T87 l0 x10_1).f3) x40_3) : Int) := of_decide_eq_true (by first | (with_reducible assumption) | assumption)
                                        have q110 : (rd ((rd_T87 l0 x10_1).f3) x40_3) < (l0.length : Int) := of_decide_eq_true (by first | (with_reducible assumption) | assumption)
                                        obtain ⟨ad110, A110_3, c110_3, e110, hx110_0, hx110_1, hx110_2, hx110_3, hx110_4, hl110_3, hi110_3⟩ := at_T87 HR0.out (rd ((rd_T87 l0 x10_1).f3) x40_3) p110 q110
                                        obtain rfl : ad105 = ad110 := (by injection e110)
                                        replace hx110_0 := (HB.out.cell (World.block_lt_of_cell? w _ hx110_0)).trans hx110_0
                                        replace hx110_1 := (HB.out.cell (World.block_lt_of_cell? w _ hx110_1)).trans hx110_1
                                        replace hx110_2 := (HB.out.cell (World.block_lt_of_cell? w _ hx110_2)).trans hx110_2
                                        replace hx110_3 := (HB.out.cell (World.block_lt_of_cell? w _ hx110_3)).trans hx110_3
                                        replace hx110_4 := (HB.out.cell (World.block_lt_of_cell? w _ hx110_4)).trans hx110_4
                                        have HR110_3 := Aside0.mk hi110_3
                                        have HC110_3 := Aside0.mk hl110_3
                                        clear hi110_3 hl110_3
                                        replace p110 := eq_true p110
                                        replace q110 := eq_true q110
                                        go_wp2
                                        go_ret
                                        exact ⟨by first | rfl | (simp [errW_none, errW_some] <;> rfl) | (simp [*, errW_none, errW_some] <;> rfl), by repeat (first | (with_reducible first | exact HB.out | apply below_alloc | apply pw_below_drewN | apply below_drew1 | refine below_set ?_ GE106.out) | exact HB.out)⟩
                                    · rw [if_neg c36] at H
                                      exact absurd H (by simp)
                                  · rw [if_neg c35] at H
                                    exact absurd H (by simp)
                          · rw [if_neg c21] at H
                            exact absurd H (by simp)
                        · rw [if_neg c20] at H
                          exact absurd H (by simp)
                      · rw [if_neg c19] at H
                        have c19b0 : decide (x40_3 < (((rd_T87 l0 x10_1).f3).length : Int)) = false := decide_eq_false c19
                        clear c19
                        have H' := Aside0.mk H
                        clear H
                        have hcz38_0 : wr.cell? ⟨gb106, 0, none⟩ = some (.int .i64 ((rd_T87 l0 x10_1).f0)) := (blk_cell BK106.out 0).trans rfl
                        have hcz38_1 : wr.cell? ⟨gb106, 1, none⟩ = some (.int .i64 ((rd_T87 l0 x10_1).f1)) := (blk_cell BK106.out 1).trans rfl
                        have hcz38_2 : wr.cell? ⟨gb106, 2, none⟩ = some (.int .i64 ((rd_T87 l0 x10_1).f2)) := (blk_cell BK106.out 2).trans rfl
                        have hcz38_3 : wr.cell? ⟨gb106, 3, none⟩ = some (.slice A105_3 ((rd_T87 l0 x10_1).f3).length c105_3) := (blk_cell BK106.out 3).trans rfl
                        have hcz38_4 : wr.cell? ⟨gb106, 4, none⟩ = some (.string ((rd_T87 l0 x10_1).f4)) := (blk_cell BK106.out 4).trans rfl
                        have hfz38_0 := blk_frozen BK106.out 0
                        have hfz38_1 := blk_frozen BK106.out 1
                        have hfz38_2 := blk_frozen BK106.out 2
                        have hfz38_3 := blk_frozen BK106.out 3
                        have hfz38_4 := blk_frozen BK106.out 4
                        go_wp2
                        go_roundg k3
                        case measure => have := HK1.out; have := HJ4.out; have := HK3.out; omega
                        case rel => exact ⟨(wrap64 (x3_1 + (((rd_T87 l0 x10_1).f3).length : Int))), (wrap64 (x10_1 + 1)), (by first | rfl | (simp; done) | (simp [*]; done)), (by first | rfl | (simp; done) | (simp [*]; done)), H', ⟨by have := HK1.out; have := HJ4.out; have := HK3.out; omega⟩, ⟨by repeat (first | (with_reducible first | exact HB.out | apply below_alloc | apply pw_below_drewN | apply below_drew1 | refine below_set ?_ GE106.out) | exact HB.out)⟩⟩
          · rw [if_neg c4] at H
            exact absurd H (by simp)
        · rw [if_neg c3] at H
          exact absurd H (by simp)
      · rw [if_neg c2] at H
        have c2b0 : decide (x10_1 < (l0.length : Int)) = false := decide_eq_false c2
        clear c2
        by_cases c39 : (l0.length : Int) = 0
        · rw [if_pos c39] at H
          have c39b0 : ((l0.length : Int) == 0) = true := beq_iff_eq.mpr c39
          have c39b1 : ((l0.length : Int) != 0) = false := bne_eq_false_iff_eq.mpr c39
          clear c39
          obtain rfl := Option.some.inj H
          go_wp2
          go_ret
          exact ⟨by first | rfl | (simp [errW_none, errW_some] <;> rfl) | (simp [*, errW_none, errW_some] <;> rfl), by repeat (first | (with_reducible first | exact HB.out | apply below_alloc | apply pw_below_drewN | apply below_drew1) | exact HB.out)⟩
        · rw [if_neg c39] at H
          have c39b0 : ((l0.length : Int) == 0) = false := beq_eq_false_iff_ne.mpr c39
          have c39b1 : ((l0.length : Int) != 0) = true := bne_iff_ne.mpr c39
          have c39b2 : ¬ (l0 = []) := fun h_ => c39 (by rw [h_]; rfl)
          obtain rfl := Option.some.inj H
          go_wp2
          go_ret
          exact ⟨by first | rfl | (simp [errW_none, errW_some] <;> rfl) | (simp [*, errW_none, errW_some] <;> rfl), by repeat (first | (with_reducible first | exact HB.out | apply below_alloc | apply pw_below_drewN | apply below_drew1) | exact HB.out)⟩

end Go.Proofs.Ytdmkofbndeicfaa.QBoxesChecks
