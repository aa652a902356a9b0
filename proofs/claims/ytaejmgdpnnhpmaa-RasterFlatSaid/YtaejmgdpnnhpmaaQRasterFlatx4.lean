/- Printed by a turn of the kit's print over contracts proved by hand; facts added by a program of this session (patch_flat.py). -/
import Derived.Test.YtaejmgdpnnhpmaaQRasterFlatx0
import Derived.Test.YtaejmgdpnnhpmaaQRasterFlatx3
import Derived.Test.YtaejmgdpnnhpmaaGivFlat
import Derived.Test.YtaejmgdpnnhpmaaGivEqDraw
namespace Go.Proofs.Ytaejmgdpnnhpmaa.QRasterFlat
open Go.RowKit Go.Proofs.YtaejmgdpnnhpmaaW.PrintWords Go.Proofs.YtaejmgdpnnhpmaaW.PrintLast Go.Proofs.YtaejmgdpnnhpmaaW.PrintMore
attribute [local go_sem] max2_int min2_int max_two min_two max_three min_three max_four min_four   -- for this text's walks alone
set_option linter.unusedVariables false
set_option linter.unusedSimpArgs false

/-! ### clerestoryref3_Flat: function 40 -/
mutual
def clerestoryref3_Flat.l0 : Nat → List (S45) → List (S72) → List (S45) → Int → Int → Option ((List (S72)) × Int)
  | 0, _, _, _, _, _ => none
  | k + 1, x4, x5, x11, x12, x13 => if x13 < x12 then (if 0 ≤ x13 then (if x13 < (x11.length : Int) then (if ((rd_T45 x11 x13).f0) = 1 then (clerestoryref3_Flat.j1 k x4 x5 x11 x12 x13 ((rd_T45 x11 x13).f0) (((rd_T45 x11 x13).f0) == 1) ((rd_T45 x11 x13).f0) ((rd_T45 x11 x13).f1) ((rd_T45 x11 x13).f2) ((rd_T45 x11 x13).f3) ((rd_T45 x11 x13).f4) ((rd_T45 x11 x13).f5) ((rd_T45 x11 x13).f6) ((rd_T45 x11 x13).f7) ((rd_T45 x11 x13).f8)) else (clerestoryref3_Flat.j1 k x4 x5 x11 x12 x13 ((rd_T45 x11 x13).f0) (((rd_T45 x11 x13).f0) == 2) ((rd_T45 x11 x13).f0) ((rd_T45 x11 x13).f1) ((rd_T45 x11 x13).f2) ((rd_T45 x11 x13).f3) ((rd_T45 x11 x13).f4) ((rd_T45 x11 x13).f5) ((rd_T45 x11 x13).f6) ((rd_T45 x11 x13).f7) ((rd_T45 x11 x13).f8))) else (none)) else (none)) else (if (x4.length : Int) > 0 then (some (([] : List (S72)), 3)) else (some (x5, 0)))
def clerestoryref3_Flat.j1 : Nat → List (S45) → List (S72) → List (S45) → Int → Int → Int → Bool → Int → Int → Int → Int → Int → Int → Int → Int → ByteArray → Option ((List (S72)) × Int)
  | 0, _, _, _, _, _, _, _, _, _, _, _, _, _, _, _, _ => none
  | k + 1, x4, x5, x11, x12, x13, x18, x19, x145000, x145001, x145002, x145003, x145004, x145005, x145006, x145007, x145008 => if x19 = true then (clerestoryref3_Flat.l1 k x4 x5 x11 x12 x13 x4 (x4.length : Int) 0 x145000 x145001 x145002 x145003 x145004 x145005 x145006 x145007 x145008 (-16777216) (-16777216) 33554432 33554432 1000) else (if x18 = 3 then (clerestoryref3_Flat.j3 k x4 x5 x11 x12 x13 x18 (x18 == 3) x145000 x145001 x145002 x145003 x145004 x145005 x145006 x145007 x145008) else (clerestoryref3_Flat.j3 k x4 x5 x11 x12 x13 x18 (x18 == 4) x145000 x145001 x145002 x145003 x145004 x145005 x145006 x145007 x145008))
def clerestoryref3_Flat.l1 : Nat → List (S45) → List (S72) → List (S45) → Int → Int → List (S45) → Int → Int → Int → Int → Int → Int → Int → Int → Int → Int → ByteArray → Int → Int → Int → Int → Int → Option ((List (S72)) × Int)
  | 0, _, _, _, _, _, _, _, _, _, _, _, _, _, _, _, _, _, _, _, _, _, _ => none
  | k + 1, x4, x5, x11, x12, x13, x25, x26, x27, x146000, x146001, x146002, x146003, x146004, x146005, x146006, x146007, x146008, x146009, x146010, x146011, x146012, x146013 => if x27 < x26 then (if 0 ≤ x27 then (if x27 < (x25.length : Int) then (if ((rd_T45 x25 x27).f0) = 3 then ((clerestoryref3_Cut.f ((rd_T45 x25 x27).f2)).bind fun t154 => ((clerestoryref3_Cut.f ((rd_T45 x25 x27).f3)).bind fun t155 => ((clerestoryref3_Cut.f ((rd_T45 x25 x27).f4)).bind fun t156 => ((clerestoryref3_Cut.f ((rd_T45 x25 x27).f5)).bind fun t157 => ((clerestoryref3_Meets.f x146009 x146010 x146011 x146012 t154 t155 t156 t157).bind fun bt158 => (clerestoryref3_Flat.l1 k x4 x5 x11 x12 x13 x25 x26 (wrap64 (x27 + 1)) x146000 x146001 x146002 x146003 x146004 x146005 x146006 x146007 x146008 bt158.1 bt158.2.1 bt158.2.2.1 bt158.2.2.2 x146013)))))) else (clerestoryref3_Flat.l1 k x4 x5 x11 x12 x13 x25 x26 (wrap64 (x27 + 1)) x146000 x146001 x146002 x146003 x146004 x146005 x146006 x146007 x146008 x146009 x146010 x146011 x146012 (wrap64 (Int.tdiv (wrap64 (x146013 * (mn (mx ((rd_T45 x25 x27).f7) 0) 1000))) 1000)))) else (none)) else (none)) else ((some (([(⟨(⟨x146000, x146001, x146002, x146003, x146004, x146005, x146006, x146007, x146008⟩ : S45), (⟨x146009, x146010, x146011, x146012⟩ : S70), x146013⟩ : S72)] : List (S72)) : List (S72))).bind fun y146 => (if x5.length + y146.length < 1172812402961 then (clerestoryref3_Flat.l0 k x4 (x5 ++ y146) x11 x12 (wrap64 (x13 + 1))) else (none)))
def clerestoryref3_Flat.j3 : Nat → List (S45) → List (S72) → List (S45) → Int → Int → Int → Bool → Int → Int → Int → Int → Int → Int → Int → Int → ByteArray → Option ((List (S72)) × Int)
  | 0, _, _, _, _, _, _, _, _, _, _, _, _, _, _, _, _ => none
  | k + 1, x4, x5, x11, x12, x13, x18, x65, x145000, x145001, x145002, x145003, x145004, x145005, x145006, x145007, x145008 => if x65 = true then ((api_Cmd.f x4).bind fun t162 => ((some (([(⟨x145000, x145001, x145002, x145003, x145004, x145005, x145006, x145007, x145008⟩ : S45)] : List (S45)) : List (S45))).bind fun y165 => (if t162.length + y165.length < 1759218604441 then (clerestoryref3_Flat.l0 k (t162 ++ y165) x5 x11 x12 (wrap64 (x13 + 1))) else (none)))) else (if x18 = 5 then (if (x4.length : Int) = 0 then (some (([] : List (S72)), 3)) else (if 0 ≤ (wrap64 ((x4.length : Int) - 1)) then (if (wrap64 ((x4.length : Int) - 1)) ≤ (x4.length : Int) then (clerestoryref3_Flat.l0 k (x4.take ((wrap64 ((x4.length : Int) - 1)) : Int).toNat) x5 x11 x12 (wrap64 (x13 + 1))) else (none)) else (none))) else (some (([] : List (S72)), 7)))
end
def clerestoryref3_Flat.f (k : Nat) (l0 : List (S45)) : Option ((List (S72)) × Int) := clerestoryref3_Flat.l0 k ([] : List (S45)) ([] : List (S72)) l0 (l0.length : Int) 0
theorem clerestoryref3_Flat.mono_l : ∀ k, (∀ y0 y1 y2 y3 y4, LeO (clerestoryref3_Flat.l0 k y0 y1 y2 y3 y4) (clerestoryref3_Flat.l0 (k + 1) y0 y1 y2 y3 y4)) ∧ (∀ y0 y1 y2 y3 y4 y5 y6 y7 y8 y9 y10 y11 y12 y13 y14 y15, LeO (clerestoryref3_Flat.j1 k y0 y1 y2 y3 y4 y5 y6 y7 y8 y9 y10 y11 y12 y13 y14 y15) (clerestoryref3_Flat.j1 (k + 1) y0 y1 y2 y3 y4 y5 y6 y7 y8 y9 y10 y11 y12 y13 y14 y15)) ∧ (∀ y0 y1 y2 y3 y4 y5 y6 y7 y8 y9 y10 y11 y12 y13 y14 y15 y16 y17 y18 y19 y20 y21, LeO (clerestoryref3_Flat.l1 k y0 y1 y2 y3 y4 y5 y6 y7 y8 y9 y10 y11 y12 y13 y14 y15 y16 y17 y18 y19 y20 y21) (clerestoryref3_Flat.l1 (k + 1) y0 y1 y2 y3 y4 y5 y6 y7 y8 y9 y10 y11 y12 y13 y14 y15 y16 y17 y18 y19 y20 y21)) ∧ (∀ y0 y1 y2 y3 y4 y5 y6 y7 y8 y9 y10 y11 y12 y13 y14 y15, LeO (clerestoryref3_Flat.j3 k y0 y1 y2 y3 y4 y5 y6 y7 y8 y9 y10 y11 y12 y13 y14 y15) (clerestoryref3_Flat.j3 (k + 1) y0 y1 y2 y3 y4 y5 y6 y7 y8 y9 y10 y11 y12 y13 y14 y15))
  | 0 => ⟨fun _ _ _ _ _ r h => by simp [clerestoryref3_Flat.l0] at h, fun _ _ _ _ _ _ _ _ _ _ _ _ _ _ _ _ r h => by simp [clerestoryref3_Flat.j1] at h, fun _ _ _ _ _ _ _ _ _ _ _ _ _ _ _ _ _ _ _ _ _ _ r h => by simp [clerestoryref3_Flat.l1] at h, fun _ _ _ _ _ _ _ _ _ _ _ _ _ _ _ _ r h => by simp [clerestoryref3_Flat.j3] at h⟩
  | k + 1 => by
    obtain ⟨ih0, ih1, ih2, ih3⟩ := clerestoryref3_Flat.mono_l k
    refine ⟨?_, ?_, ?_, ?_⟩
    · intro y0 y1 y2 y3 y4
      unfold clerestoryref3_Flat.l0
      repeat' first
      | (with_reducible exact ih0 _ _ _ _ _)
      | (with_reducible exact ih1 _ _ _ _ _ _ _ _ _ _ _ _ _ _ _ _)
      | (with_reducible exact ih2 _ _ _ _ _ _ _ _ _ _ _ _ _ _ _ _ _ _ _ _ _ _)
      | (with_reducible exact ih3 _ _ _ _ _ _ _ _ _ _ _ _ _ _ _ _)
      | (with_reducible exact LeO.refl _)
      | (with_reducible exact LeO.none _)
      | (with_reducible refine LeO.ite ?_ ?_)
      | (with_reducible refine LeO.bind ?_ (fun _ => ?_))
      | exact ih0 _ _ _ _ _
      | exact ih1 _ _ _ _ _ _ _ _ _ _ _ _ _ _ _ _
      | exact ih2 _ _ _ _ _ _ _ _ _ _ _ _ _ _ _ _ _ _ _ _ _ _
      | exact ih3 _ _ _ _ _ _ _ _ _ _ _ _ _ _ _ _
      | exact LeO.none _
      | refine LeO.ite ?_ ?_
      | refine LeO.bind ?_ (fun _ => ?_)
    · intro y0 y1 y2 y3 y4 y5 y6 y7 y8 y9 y10 y11 y12 y13 y14 y15
      unfold clerestoryref3_Flat.j1
      repeat' first
      | (with_reducible exact ih0 _ _ _ _ _)
      | (with_reducible exact ih1 _ _ _ _ _ _ _ _ _ _ _ _ _ _ _ _)
      | (with_reducible exact ih2 _ _ _ _ _ _ _ _ _ _ _ _ _ _ _ _ _ _ _ _ _ _)
      | (with_reducible exact ih3 _ _ _ _ _ _ _ _ _ _ _ _ _ _ _ _)
      | (with_reducible exact LeO.refl _)
      | (with_reducible exact LeO.none _)
      | (with_reducible refine LeO.ite ?_ ?_)
      | (with_reducible refine LeO.bind ?_ (fun _ => ?_))
      | exact ih0 _ _ _ _ _
      | exact ih1 _ _ _ _ _ _ _ _ _ _ _ _ _ _ _ _
      | exact ih2 _ _ _ _ _ _ _ _ _ _ _ _ _ _ _ _ _ _ _ _ _ _
      | exact ih3 _ _ _ _ _ _ _ _ _ _ _ _ _ _ _ _
      | exact LeO.none _
      | refine LeO.ite ?_ ?_
      | refine LeO.bind ?_ (fun _ => ?_)
    · intro y0 y1 y2 y3 y4 y5 y6 y7 y8 y9 y10 y11 y12 y13 y14 y15 y16 y17 y18 y19 y20 y21
      unfold clerestoryref3_Flat.l1
      repeat' first
      | (with_reducible exact ih0 _ _ _ _ _)
      | (with_reducible exact ih1 _ _ _ _ _ _ _ _ _ _ _ _ _ _ _ _)
      | (with_reducible exact ih2 _ _ _ _ _ _ _ _ _ _ _ _ _ _ _ _ _ _ _ _ _ _)
      | (with_reducible exact ih3 _ _ _ _ _ _ _ _ _ _ _ _ _ _ _ _)
      | (with_reducible exact LeO.refl _)
      | (with_reducible exact LeO.none _)
      | (with_reducible refine LeO.ite ?_ ?_)
      | (with_reducible refine LeO.bind ?_ (fun _ => ?_))
      | exact ih0 _ _ _ _ _
      | exact ih1 _ _ _ _ _ _ _ _ _ _ _ _ _ _ _ _
      | exact ih2 _ _ _ _ _ _ _ _ _ _ _ _ _ _ _ _ _ _ _ _ _ _
      | exact ih3 _ _ _ _ _ _ _ _ _ _ _ _ _ _ _ _
      | exact LeO.none _
      | refine LeO.ite ?_ ?_
      | refine LeO.bind ?_ (fun _ => ?_)
    · intro y0 y1 y2 y3 y4 y5 y6 y7 y8 y9 y10 y11 y12 y13 y14 y15
      unfold clerestoryref3_Flat.j3
      repeat' first
      | (with_reducible exact ih0 _ _ _ _ _)
      | (with_reducible exact ih1 _ _ _ _ _ _ _ _ _ _ _ _ _ _ _ _)
      | (with_reducible exact ih2 _ _ _ _ _ _ _ _ _ _ _ _ _ _ _ _ _ _ _ _ _ _)
      | (with_reducible exact ih3 _ _ _ _ _ _ _ _ _ _ _ _ _ _ _ _)
      | (with_reducible exact LeO.refl _)
      | (with_reducible exact LeO.none _)
      | (with_reducible refine LeO.ite ?_ ?_)
      | (with_reducible refine LeO.bind ?_ (fun _ => ?_))
      | exact ih0 _ _ _ _ _
      | exact ih1 _ _ _ _ _ _ _ _ _ _ _ _ _ _ _ _
      | exact ih2 _ _ _ _ _ _ _ _ _ _ _ _ _ _ _ _ _ _ _ _ _ _
      | exact ih3 _ _ _ _ _ _ _ _ _ _ _ _ _ _ _ _
      | exact LeO.none _
      | refine LeO.ite ?_ ?_
      | refine LeO.bind ?_ (fun _ => ?_)
theorem clerestoryref3_Flat.mono : ∀ a0 k, LeO (clerestoryref3_Flat.f k a0) (clerestoryref3_Flat.f (k + 1) a0) := by
  intro a0 k
  obtain ⟨ih0, ih1, ih2, ih3⟩ := clerestoryref3_Flat.mono_l k
  unfold clerestoryref3_Flat.f
  repeat' first
      | (with_reducible exact ih0 _ _ _ _ _)
      | (with_reducible exact ih1 _ _ _ _ _ _ _ _ _ _ _ _ _ _ _ _)
      | (with_reducible exact ih2 _ _ _ _ _ _ _ _ _ _ _ _ _ _ _ _ _ _ _ _ _ _)
      | (with_reducible exact ih3 _ _ _ _ _ _ _ _ _ _ _ _ _ _ _ _)
      | (with_reducible exact LeO.refl _)
      | (with_reducible exact LeO.none _)
      | (with_reducible refine LeO.ite ?_ ?_)
      | (with_reducible refine LeO.bind ?_ (fun _ => ?_))
      | exact ih0 _ _ _ _ _
      | exact ih1 _ _ _ _ _ _ _ _ _ _ _ _ _ _ _ _
      | exact ih2 _ _ _ _ _ _ _ _ _ _ _ _ _ _ _ _ _ _ _ _ _ _
      | exact ih3 _ _ _ _ _ _ _ _ _ _ _ _ _ _ _ _
      | exact LeO.none _
      | refine LeO.ite ?_ ?_
      | refine LeO.bind ?_ (fun _ => ?_)
def clerestoryref3_Flat.T15 : Bool × List (List Nat × List Nat) := (true, [([], []), ([0], [0]), ([], []), ([2], [2]), ([3], [3]), ([], []), ([5], [5]), ([6, 4], [6]), ([], []), ([8], [8]), ([9, 7], [9]), ([], []), ([11], [11]), ([12, 10], [12]), ([4, 7, 10, 13], [4, 7, 10, 13]), ([1, 14, 13], [1, 14]), ([0, 1, 2, 3, 4, 5, 6, 7, 8, 9, 10, 11, 12, 13, 14, 15], []), ([16, 15, 15, 0, 1, 2, 3, 4, 5, 6, 7, 8, 9, 10, 11, 12, 13, 14, 15], [15, 16])])
def clerestoryref3_Flat.B15 : List Nat := [0, 1, 0, 4, 12, 0, 32, 124, 0, 256, 1020, 0, 2048, 8188, 16380, 32767, 65535, 131071]
theorem clerestoryref3_Flat.tab15 : rtab .any (opsOf Try.f40 15) = clerestoryref3_Flat.T15 := by kernel_rfl
theorem clerestoryref3_Flat.bits15 : waitsOk clerestoryref3_Flat.T15.2 clerestoryref3_Flat.B15 = true := by kernel_rfl
set_option maxHeartbeats 8000000 in
set_option maxRecDepth 100000 in
theorem clerestoryref3_Flat.calls (k : Nat) (A0 : Option Addr) (c0 : Nat) (l0 : List (S45)) (r1 : List (S72)) (r2 : Int) (w : World) (hr0 : Kd.C k45 w A0 l0.length l0) (hc0 : l0.length ≤ c0) (h : clerestoryref3_Flat.f k l0 = some (r1, r2)) :
    Calls Try.prog 40 #[.slice A0 l0.length c0] w fun e w' => ∃ v0_ : Value, e = .returned (.tuple #[v0_, .int .i64 r2]) ∧ Kd.R k72 72 w' w.heap.size (fun _ => True) v0_ r1 ∧ Below w.heap.size w w' := by
  have hu45 := Try.underlying45
  have hu70 := Try.underlying70
  have hu72 := Try.underlying72
  have HR0 := Aside0.mk hr0
  have HC0 := Aside0.mk hc0
  clear hr0 hc0
  have HB := Aside0.mk (Below.refl w.heap.size w)
  have H : (clerestoryref3_Flat.l0 k ([] : List (S45)) ([] : List (S72)) l0 (l0.length : Int) 0) = some (r1, r2) := h
  clear h
  have H' := Aside0.mk H
  clear H
  go_enter Try.func40, Try.ntmps40
  go_wp2
  go_loopg [4, 5, 13] k (fun kq v4 v5 v13 w' => ∃ (x4_1 : List (S45)) (x5_1 : List (S72)) (x13_1 : Int), v13 = .int .i64 x13_1 ∧ Aside0 (clerestoryref3_Flat.l0 kq x4_1 x5_1 l0 (l0.length : Int) x13_1 = some (r1, r2)) ∧ Aside0 (kq ≤ k) ∧ Aside0 (Kd.R k45 45 w' w.heap.size (fun _ => True) v4 x4_1) ∧ Aside0 (Kd.R k72 72 w' w.heap.size (fun _ => True) v5 x5_1) ∧ Aside0 (Below w.heap.size w w'))
  case atStart => exact ⟨(([] : List (S45))), (([] : List (S72))), (0), (by first | rfl | (simp; done) | (simp [*]; done)), H', ⟨Nat.le_refl _⟩, ⟨by first | exact Kd.R_nil _ _ _ _ _ | exact Kd.N_nil _ _ _ _ _ | exact Kd.V_nil _ _ _ _ _ | exact Kd.Q_nil _ _ _ _ _ | exact Kd.S_nil _ _ _ _ _⟩, ⟨by first | exact Kd.R_nil _ _ _ _ _ | exact Kd.N_nil _ _ _ _ _ | exact Kd.V_nil _ _ _ _ _ | exact Kd.Q_nil _ _ _ _ _ | exact Kd.S_nil _ _ _ _ _⟩, ⟨by repeat (first | (with_reducible first | exact HB.out | apply below_alloc | apply pw_below_drewN | apply below_drew1) | exact HB.out)⟩⟩
  case round =>
    clear H'
    obtain ⟨x4_1, x5_1, x13_1, rfl, HA, HK1, HO_4, HO_5, HB⟩ := hrel
    cases gk with
    | zero => exact absurd HA.out (by simp [clerestoryref3_Flat.l0])
    | succ k1 =>
      have H := HA.out
      clear HA
      simp only [clerestoryref3_Flat.l0] at H
      by_cases c2 : x13_1 < (l0.length : Int)
      · rw [if_pos c2] at H
        have c2b0 : decide (x13_1 < (l0.length : Int)) = true := decide_eq_true c2
        clear c2
        by_cases c3 : 0 ≤ x13_1
        · rw [if_pos c3] at H
          have c3b0 : decide (0 ≤ x13_1) = true := decide_eq_true c3
          clear c3
          by_cases c4 : x13_1 < (l0.length : Int)
          · rw [if_pos c4] at H
            have c4b0 : decide (x13_1 < (l0.length : Int)) = true := decide_eq_true c4
            clear c4
            have HC5 := Aside0.mk H
            clear H
            have p143 : 0 ≤ (x13_1 : Int) := of_decide_eq_true (by first | (with_reducible assumption) | assumption)
            have q143 : x13_1 < (l0.length : Int) := of_decide_eq_true (by first | (with_reducible assumption) | assumption)
            obtain ⟨ad143, e143, hx143_0, hx143_1, hx143_2, hx143_3, hx143_4, hx143_5, hx143_6, hx143_7, hx143_8⟩ := at_T45 HR0.out x13_1 p143 q143
            cases e143
            replace hx143_0 := (HB.out.cell (World.block_lt_of_cell? w _ hx143_0)).trans hx143_0
            replace hx143_1 := (HB.out.cell (World.block_lt_of_cell? w _ hx143_1)).trans hx143_1
            replace hx143_2 := (HB.out.cell (World.block_lt_of_cell? w _ hx143_2)).trans hx143_2
            replace hx143_3 := (HB.out.cell (World.block_lt_of_cell? w _ hx143_3)).trans hx143_3
            replace hx143_4 := (HB.out.cell (World.block_lt_of_cell? w _ hx143_4)).trans hx143_4
            replace hx143_5 := (HB.out.cell (World.block_lt_of_cell? w _ hx143_5)).trans hx143_5
            replace hx143_6 := (HB.out.cell (World.block_lt_of_cell? w _ hx143_6)).trans hx143_6
            replace hx143_7 := (HB.out.cell (World.block_lt_of_cell? w _ hx143_7)).trans hx143_7
            replace hx143_8 := (HB.out.cell (World.block_lt_of_cell? w _ hx143_8)).trans hx143_8
            replace p143 := eq_true p143
            replace q143 := eq_true q143
            go_upto_if 19 with (first | ((with_reducible refine gate_dst (N := 7) rfl ?_); refine box_event ?hg (N := 7) ?hd (cs := #[.int .i64 0, .int .i64 0, .int .i64 0, .int .i64 0, .int .i64 0, .int .i64 0, .int .i64 0, .int .i64 0, .string (⟨#[]⟩ : ByteArray)]) (t := 45) ?hr ?_; (case hd => rfl); (case hg => rfl); (case hr => first | (go_simp; done) | (go_simp; rfl)); intro gb144 hg w6 hbox hb; have n0_ := Aside0.mk (Kd.R_below (Kd.R_elderB (by (with_reducible repeat (first | apply Kd.R_alloc | apply Kd.R_drewN | apply Kd.R_drew)); exact HO_4.out) gb144 (Nat.le_of_eq hg.symm)) hb); have n1_ := Aside0.mk (Kd.R_below (by (with_reducible repeat (first | apply Kd.R_alloc | apply Kd.R_drewN | apply Kd.R_drew)); exact HO_5.out) hb); have n2_ := Aside0.mk (below_step (by repeat (first | (with_reducible first | exact HB.out | apply below_alloc | apply pw_below_drewN | apply below_drew1) | exact HB.out)) hb); have n3_ := Aside0.mk (hbox); have n4_ := Aside0.mk ((by rw [hg]; exact (below_size (by repeat (first | (with_reducible first | exact HB.out | apply below_alloc | apply pw_below_drewN | apply below_drew1) | exact HB.out))) : w.heap.size ≤ gb144)); have n5_ := Aside0.mk ((by rw [hg]; exact (below_size (by repeat (first | (with_reducible first | exact HB.out | apply below_alloc | apply pw_below_drewN | apply below_drew1) | exact HB.out))) : w.heap.size ≤ gb144)); clear HO_4; clear HO_5; clear HB; have HO_4 := n0_; have HO_5 := n1_; have HB := n2_; have BK144 := n3_; have GW144 := n4_; have GE144 := n5_; clear n0_ n1_ n2_ n3_ n4_ n5_; clear hb hbox hg; have hcz7_0 : w6.cell? ⟨gb144, 0, none⟩ = some (.int .i64 0) := (blk_cell BK144.out 0).trans rfl; have hcz7_1 : w6.cell? ⟨gb144, 1, none⟩ = some (.int .i64 0) := (blk_cell BK144.out 1).trans rfl; have hcz7_2 : w6.cell? ⟨gb144, 2, none⟩ = some (.int .i64 0) := (blk_cell BK144.out 2).trans rfl; have hcz7_3 : w6.cell? ⟨gb144, 3, none⟩ = some (.int .i64 0) := (blk_cell BK144.out 3).trans rfl; have hcz7_4 : w6.cell? ⟨gb144, 4, none⟩ = some (.int .i64 0) := (blk_cell BK144.out 4).trans rfl; have hcz7_5 : w6.cell? ⟨gb144, 5, none⟩ = some (.int .i64 0) := (blk_cell BK144.out 5).trans rfl; have hcz7_6 : w6.cell? ⟨gb144, 6, none⟩ = some (.int .i64 0) := (blk_cell BK144.out 6).trans rfl; have hcz7_7 : w6.cell? ⟨gb144, 7, none⟩ = some (.int .i64 0) := (blk_cell BK144.out 7).trans rfl; have hcz7_8 : w6.cell? ⟨gb144, 8, none⟩ = some (.string (⟨#[]⟩ : ByteArray)) := (blk_cell BK144.out 8).trans rfl; have hfz7_0 := blk_frozen BK144.out 0; have hfz7_1 := blk_frozen BK144.out 1; have hfz7_2 := blk_frozen BK144.out 2; have hfz7_3 := blk_frozen BK144.out 3; have hfz7_4 := blk_frozen BK144.out 4; have hfz7_5 := blk_frozen BK144.out 5; have hfz7_6 := blk_frozen BK144.out 6; have hfz7_7 := blk_frozen BK144.out 7; have hfz7_8 := blk_frozen BK144.out 8))
            (try simp only [Act.put, List.setIfInBounds_toArray, List.set_cons_zero, List.set_cons_succ])
            go_cut [19] (fun v19 wc => ∃ (kq : Nat) (x19_4 : Bool), v19 = .bool x19_4 ∧ Aside0 (clerestoryref3_Flat.j1 kq x4_1 x5_1 l0 (l0.length : Int) x13_1 ((rd_T45 l0 x13_1).f0) x19_4 ((rd_T45 l0 x13_1).f0) ((rd_T45 l0 x13_1).f1) ((rd_T45 l0 x13_1).f2) ((rd_T45 l0 x13_1).f3) ((rd_T45 l0 x13_1).f4) ((rd_T45 l0 x13_1).f5) ((rd_T45 l0 x13_1).f6) ((rd_T45 l0 x13_1).f7) ((rd_T45 l0 x13_1).f8) = some (r1, r2)) ∧ Aside0 (kq ≤ k1) ∧ Aside0 (Kd.R k45 45 wc w.heap.size (fun k_ => k_ ≠ gb144) u4 x4_1) ∧ Aside0 (Kd.R k72 72 wc w.heap.size (fun _ => True) u5 x5_1) ∧ Aside0 (wc.heap[gb144]? = some (.cells #[.int .i64 ((rd_T45 l0 x13_1).f0), .int .i64 ((rd_T45 l0 x13_1).f1), .int .i64 ((rd_T45 l0 x13_1).f2), .int .i64 ((rd_T45 l0 x13_1).f3), .int .i64 ((rd_T45 l0 x13_1).f4), .int .i64 ((rd_T45 l0 x13_1).f5), .int .i64 ((rd_T45 l0 x13_1).f6), .int .i64 ((rd_T45 l0 x13_1).f7), .string ((rd_T45 l0 x13_1).f8)] 45 (0, 0))) ∧ Aside0 (Below w.heap.size w wc))
            case first =>
              have H := HC5.out
              clear HC5
              by_cases c8 : ((rd_T45 l0 x13_1).f0) = 1
              · rw [if_pos c8] at H
                have c8b0 : (((rd_T45 l0 x13_1).f0) == 1) = true := beq_iff_eq.mpr c8
                have c8b1 : (((rd_T45 l0 x13_1).f0) != 1) = false := bne_eq_false_iff_eq.mpr c8
                clear c8
                (first | rw [c8b0] | (simp only [i64_w, i32_w]; rw [c8b0]) | skip)
                have H' := Aside0.mk H
                clear H
                go_wp2
                go_meet
                case rel => exact ⟨_, ((((rd_T45 l0 x13_1).f0) == 1)), (by first | rfl | (simp; done) | (simp [*]; done)), H', ⟨by have := HK1.out; first | omega | exact Nat.le_refl _⟩, ⟨by (with_reducible repeat (first | apply Kd.R_alloc | apply Kd.R_drewN | apply Kd.R_drew)); exact Kd.R_mono (Kd.R_far (p := ⟨gb144, 8, none⟩) (Kd.R_far (p := ⟨gb144, 7, none⟩) (Kd.R_far (p := ⟨gb144, 6, none⟩) (Kd.R_far (p := ⟨gb144, 5, none⟩) (Kd.R_far (p := ⟨gb144, 4, none⟩) (Kd.R_far (p := ⟨gb144, 3, none⟩) (Kd.R_far (p := ⟨gb144, 2, none⟩) (Kd.R_far (p := ⟨gb144, 1, none⟩) (Kd.R_far (p := ⟨gb144, 0, none⟩) (Kd.R_mono HO_4.out (fun k_ hk => (⟨hk, hk.2⟩ : _ ∧ k_ ≠ gb144))) (fun _ hk => hk.2) (.int .i64 ((rd_T45 l0 x13_1).f0))) (fun _ hk => hk.2) (.int .i64 ((rd_T45 l0 x13_1).f1))) (fun _ hk => hk.2) (.int .i64 ((rd_T45 l0 x13_1).f2))) (fun _ hk => hk.2) (.int .i64 ((rd_T45 l0 x13_1).f3))) (fun _ hk => hk.2) (.int .i64 ((rd_T45 l0 x13_1).f4))) (fun _ hk => hk.2) (.int .i64 ((rd_T45 l0 x13_1).f5))) (fun _ hk => hk.2) (.int .i64 ((rd_T45 l0 x13_1).f6))) (fun _ hk => hk.2) (.int .i64 ((rd_T45 l0 x13_1).f7))) (fun _ hk => hk.2) (.string ((rd_T45 l0 x13_1).f8))) (fun _ hk => hk.1.2)⟩, ⟨by (with_reducible repeat (first | apply Kd.R_alloc | apply Kd.R_drewN | apply Kd.R_drew)); exact Kd.R_mono (Kd.R_far (p := ⟨gb144, 8, none⟩) (Kd.R_far (p := ⟨gb144, 7, none⟩) (Kd.R_far (p := ⟨gb144, 6, none⟩) (Kd.R_far (p := ⟨gb144, 5, none⟩) (Kd.R_far (p := ⟨gb144, 4, none⟩) (Kd.R_far (p := ⟨gb144, 3, none⟩) (Kd.R_far (p := ⟨gb144, 2, none⟩) (Kd.R_far (p := ⟨gb144, 1, none⟩) (Kd.R_far (p := ⟨gb144, 0, none⟩) (Kd.R_types HO_5.out BK144.out (by decide)) (fun _ hk => hk.2) (.int .i64 ((rd_T45 l0 x13_1).f0))) (fun _ hk => hk.2) (.int .i64 ((rd_T45 l0 x13_1).f1))) (fun _ hk => hk.2) (.int .i64 ((rd_T45 l0 x13_1).f2))) (fun _ hk => hk.2) (.int .i64 ((rd_T45 l0 x13_1).f3))) (fun _ hk => hk.2) (.int .i64 ((rd_T45 l0 x13_1).f4))) (fun _ hk => hk.2) (.int .i64 ((rd_T45 l0 x13_1).f5))) (fun _ hk => hk.2) (.int .i64 ((rd_T45 l0 x13_1).f6))) (fun _ hk => hk.2) (.int .i64 ((rd_T45 l0 x13_1).f7))) (fun _ hk => hk.2) (.string ((rd_T45 l0 x13_1).f8))) (fun _ hk => trivial)⟩, ⟨by (with_reducible repeat (first | refine blk_drewN ?_ _ | refine blk_drew ?_ | refine blk_alloc ?_ _)); refine blk_put (cs := #[.int .i64 ((rd_T45 l0 x13_1).f0), .int .i64 ((rd_T45 l0 x13_1).f1), .int .i64 ((rd_T45 l0 x13_1).f2), .int .i64 ((rd_T45 l0 x13_1).f3), .int .i64 ((rd_T45 l0 x13_1).f4), .int .i64 ((rd_T45 l0 x13_1).f5), .int .i64 ((rd_T45 l0 x13_1).f6), .int .i64 ((rd_T45 l0 x13_1).f7), .string (⟨#[]⟩ : ByteArray)]) ?_ 8 _ rfl; (with_reducible repeat (first | refine blk_drewN ?_ _ | refine blk_drew ?_ | refine blk_alloc ?_ _)); refine blk_put (cs := #[.int .i64 ((rd_T45 l0 x13_1).f0), .int .i64 ((rd_T45 l0 x13_1).f1), .int .i64 ((rd_T45 l0 x13_1).f2), .int .i64 ((rd_T45 l0 x13_1).f3), .int .i64 ((rd_T45 l0 x13_1).f4), .int .i64 ((rd_T45 l0 x13_1).f5), .int .i64 ((rd_T45 l0 x13_1).f6), .int .i64 0, .string (⟨#[]⟩ : ByteArray)]) ?_ 7 _ rfl; (with_reducible repeat (first | refine blk_drewN ?_ _ | refine blk_drew ?_ | refine blk_alloc ?_ _)); refine blk_put (cs := #[.int .i64 ((rd_T45 l0 x13_1).f0), .int .i64 ((rd_T45 l0 x13_1).f1), .int .i64 ((rd_T45 l0 x13_1).f2), .int .i64 ((rd_T45 l0 x13_1).f3), .int .i64 ((rd_T45 l0 x13_1).f4), .int .i64 ((rd_T45 l0 x13_1).f5), .int .i64 0, .int .i64 0, .string (⟨#[]⟩ : ByteArray)]) ?_ 6 _ rfl; (with_reducible repeat (first | refine blk_drewN ?_ _ | refine blk_drew ?_ | refine blk_alloc ?_ _)); refine blk_put (cs := #[.int .i64 ((rd_T45 l0 x13_1).f0), .int .i64 ((rd_T45 l0 x13_1).f1), .int .i64 ((rd_T45 l0 x13_1).f2), .int .i64 ((rd_T45 l0 x13_1).f3), .int .i64 ((rd_T45 l0 x13_1).f4), .int .i64 0, .int .i64 0, .int .i64 0, .string (⟨#[]⟩ : ByteArray)]) ?_ 5 _ rfl; (with_reducible repeat (first | refine blk_drewN ?_ _ | refine blk_drew ?_ | refine blk_alloc ?_ _)); refine blk_put (cs := #[.int .i64 ((rd_T45 l0 x13_1).f0), .int .i64 ((rd_T45 l0 x13_1).f1), .int .i64 ((rd_T45 l0 x13_1).f2), .int .i64 ((rd_T45 l0 x13_1).f3), .int .i64 0, .int .i64 0, .int .i64 0, .int .i64 0, .string (⟨#[]⟩ : ByteArray)]) ?_ 4 _ rfl; (with_reducible repeat (first | refine blk_drewN ?_ _ | refine blk_drew ?_ | refine blk_alloc ?_ _)); refine blk_put (cs := #[.int .i64 ((rd_T45 l0 x13_1).f0), .int .i64 ((rd_T45 l0 x13_1).f1), .int .i64 ((rd_T45 l0 x13_1).f2), .int .i64 0, .int .i64 0, .int .i64 0, .int .i64 0, .int .i64 0, .string (⟨#[]⟩ : ByteArray)]) ?_ 3 _ rfl; (with_reducible repeat (first | refine blk_drewN ?_ _ | refine blk_drew ?_ | refine blk_alloc ?_ _)); refine blk_put (cs := #[.int .i64 ((rd_T45 l0 x13_1).f0), .int .i64 ((rd_T45 l0 x13_1).f1), .int .i64 0, .int .i64 0, .int .i64 0, .int .i64 0, .int .i64 0, .int .i64 0, .string (⟨#[]⟩ : ByteArray)]) ?_ 2 _ rfl; (with_reducible repeat (first | refine blk_drewN ?_ _ | refine blk_drew ?_ | refine blk_alloc ?_ _)); refine blk_put (cs := #[.int .i64 ((rd_T45 l0 x13_1).f0), .int .i64 0, .int .i64 0, .int .i64 0, .int .i64 0, .int .i64 0, .int .i64 0, .int .i64 0, .string (⟨#[]⟩ : ByteArray)]) ?_ 1 _ rfl; (with_reducible repeat (first | refine blk_drewN ?_ _ | refine blk_drew ?_ | refine blk_alloc ?_ _)); refine blk_put (cs := #[.int .i64 0, .int .i64 0, .int .i64 0, .int .i64 0, .int .i64 0, .int .i64 0, .int .i64 0, .int .i64 0, .string (⟨#[]⟩ : ByteArray)]) ?_ 0 _ rfl; (with_reducible repeat (first | refine blk_drewN ?_ _ | refine blk_drew ?_ | refine blk_alloc ?_ _)); exact BK144.out⟩, ⟨by repeat (first | (with_reducible first | exact HB.out | apply below_alloc | apply pw_below_drewN | apply below_drew1 | refine below_set ?_ GE144.out) | exact HB.out)⟩⟩
              · rw [if_neg c8] at H
                have c8b0 : (((rd_T45 l0 x13_1).f0) == 1) = false := beq_eq_false_iff_ne.mpr c8
                have c8b1 : (((rd_T45 l0 x13_1).f0) != 1) = true := bne_iff_ne.mpr c8
                (first | rw [c8b0] | (simp only [i64_w, i32_w]; rw [c8b0]) | skip)
                have H' := Aside0.mk H
                clear H
                go_wp2
                go_meet
                case rel => exact ⟨_, ((((rd_T45 l0 x13_1).f0) == 2)), (by first | rfl | (simp; done) | (simp [*]; done)), H', ⟨by have := HK1.out; first | omega | exact Nat.le_refl _⟩, ⟨by (with_reducible repeat (first | apply Kd.R_alloc | apply Kd.R_drewN | apply Kd.R_drew)); exact Kd.R_mono (Kd.R_far (p := ⟨gb144, 8, none⟩) (Kd.R_far (p := ⟨gb144, 7, none⟩) (Kd.R_far (p := ⟨gb144, 6, none⟩) (Kd.R_far (p := ⟨gb144, 5, none⟩) (Kd.R_far (p := ⟨gb144, 4, none⟩) (Kd.R_far (p := ⟨gb144, 3, none⟩) (Kd.R_far (p := ⟨gb144, 2, none⟩) (Kd.R_far (p := ⟨gb144, 1, none⟩) (Kd.R_far (p := ⟨gb144, 0, none⟩) (Kd.R_mono HO_4.out (fun k_ hk => (⟨hk, hk.2⟩ : _ ∧ k_ ≠ gb144))) (fun _ hk => hk.2) (.int .i64 ((rd_T45 l0 x13_1).f0))) (fun _ hk => hk.2) (.int .i64 ((rd_T45 l0 x13_1).f1))) (fun _ hk => hk.2) (.int .i64 ((rd_T45 l0 x13_1).f2))) (fun _ hk => hk.2) (.int .i64 ((rd_T45 l0 x13_1).f3))) (fun _ hk => hk.2) (.int .i64 ((rd_T45 l0 x13_1).f4))) (fun _ hk => hk.2) (.int .i64 ((rd_T45 l0 x13_1).f5))) (fun _ hk => hk.2) (.int .i64 ((rd_T45 l0 x13_1).f6))) (fun _ hk => hk.2) (.int .i64 ((rd_T45 l0 x13_1).f7))) (fun _ hk => hk.2) (.string ((rd_T45 l0 x13_1).f8))) (fun _ hk => hk.1.2)⟩, ⟨by (with_reducible repeat (first | apply Kd.R_alloc | apply Kd.R_drewN | apply Kd.R_drew)); exact Kd.R_mono (Kd.R_far (p := ⟨gb144, 8, none⟩) (Kd.R_far (p := ⟨gb144, 7, none⟩) (Kd.R_far (p := ⟨gb144, 6, none⟩) (Kd.R_far (p := ⟨gb144, 5, none⟩) (Kd.R_far (p := ⟨gb144, 4, none⟩) (Kd.R_far (p := ⟨gb144, 3, none⟩) (Kd.R_far (p := ⟨gb144, 2, none⟩) (Kd.R_far (p := ⟨gb144, 1, none⟩) (Kd.R_far (p := ⟨gb144, 0, none⟩) (Kd.R_types HO_5.out BK144.out (by decide)) (fun _ hk => hk.2) (.int .i64 ((rd_T45 l0 x13_1).f0))) (fun _ hk => hk.2) (.int .i64 ((rd_T45 l0 x13_1).f1))) (fun _ hk => hk.2) (.int .i64 ((rd_T45 l0 x13_1).f2))) (fun _ hk => hk.2) (.int .i64 ((rd_T45 l0 x13_1).f3))) (fun _ hk => hk.2) (.int .i64 ((rd_T45 l0 x13_1).f4))) (fun _ hk => hk.2) (.int .i64 ((rd_T45 l0 x13_1).f5))) (fun _ hk => hk.2) (.int .i64 ((rd_T45 l0 x13_1).f6))) (fun _ hk => hk.2) (.int .i64 ((rd_T45 l0 x13_1).f7))) (fun _ hk => hk.2) (.string ((rd_T45 l0 x13_1).f8))) (fun _ hk => trivial)⟩, ⟨by (with_reducible repeat (first | refine blk_drewN ?_ _ | refine blk_drew ?_ | refine blk_alloc ?_ _)); refine blk_put (cs := #[.int .i64 ((rd_T45 l0 x13_1).f0), .int .i64 ((rd_T45 l0 x13_1).f1), .int .i64 ((rd_T45 l0 x13_1).f2), .int .i64 ((rd_T45 l0 x13_1).f3), .int .i64 ((rd_T45 l0 x13_1).f4), .int .i64 ((rd_T45 l0 x13_1).f5), .int .i64 ((rd_T45 l0 x13_1).f6), .int .i64 ((rd_T45 l0 x13_1).f7), .string (⟨#[]⟩ : ByteArray)]) ?_ 8 _ rfl; (with_reducible repeat (first | refine blk_drewN ?_ _ | refine blk_drew ?_ | refine blk_alloc ?_ _)); refine blk_put (cs := #[.int .i64 ((rd_T45 l0 x13_1).f0), .int .i64 ((rd_T45 l0 x13_1).f1), .int .i64 ((rd_T45 l0 x13_1).f2), .int .i64 ((rd_T45 l0 x13_1).f3), .int .i64 ((rd_T45 l0 x13_1).f4), .int .i64 ((rd_T45 l0 x13_1).f5), .int .i64 ((rd_T45 l0 x13_1).f6), .int .i64 0, .string (⟨#[]⟩ : ByteArray)]) ?_ 7 _ rfl; (with_reducible repeat (first | refine blk_drewN ?_ _ | refine blk_drew ?_ | refine blk_alloc ?_ _)); refine blk_put (cs := #[.int .i64 ((rd_T45 l0 x13_1).f0), .int .i64 ((rd_T45 l0 x13_1).f1), .int .i64 ((rd_T45 l0 x13_1).f2), .int .i64 ((rd_T45 l0 x13_1).f3), .int .i64 ((rd_T45 l0 x13_1).f4), .int .i64 ((rd_T45 l0 x13_1).f5), .int .i64 0, .int .i64 0, .string (⟨#[]⟩ : ByteArray)]) ?_ 6 _ rfl; (with_reducible repeat (first | refine blk_drewN ?_ _ | refine blk_drew ?_ | refine blk_alloc ?_ _)); refine blk_put (cs := #[.int .i64 ((rd_T45 l0 x13_1).f0), .int .i64 ((rd_T45 l0 x13_1).f1), .int .i64 ((rd_T45 l0 x13_1).f2), .int .i64 ((rd_T45 l0 x13_1).f3), .int .i64 ((rd_T45 l0 x13_1).f4), .int .i64 0, .int .i64 0, .int .i64 0, .string (⟨#[]⟩ : ByteArray)]) ?_ 5 _ rfl; (with_reducible repeat (first | refine blk_drewN ?_ _ | refine blk_drew ?_ | refine blk_alloc ?_ _)); refine blk_put (cs := #[.int .i64 ((rd_T45 l0 x13_1).f0), .int .i64 ((rd_T45 l0 x13_1).f1), .int .i64 ((rd_T45 l0 x13_1).f2), .int .i64 ((rd_T45 l0 x13_1).f3), .int .i64 0, .int .i64 0, .int .i64 0, .int .i64 0, .string (⟨#[]⟩ : ByteArray)]) ?_ 4 _ rfl; (with_reducible repeat (first | refine blk_drewN ?_ _ | refine blk_drew ?_ | refine blk_alloc ?_ _)); refine blk_put (cs := #[.int .i64 ((rd_T45 l0 x13_1).f0), .int .i64 ((rd_T45 l0 x13_1).f1), .int .i64 ((rd_T45 l0 x13_1).f2), .int .i64 0, .int .i64 0, .int .i64 0, .int .i64 0, .int .i64 0, .string (⟨#[]⟩ : ByteArray)]) ?_ 3 _ rfl; (with_reducible repeat (first | refine blk_drewN ?_ _ | refine blk_drew ?_ | refine blk_alloc ?_ _)); refine blk_put (cs := #[.int .i64 ((rd_T45 l0 x13_1).f0), .int .i64 ((rd_T45 l0 x13_1).f1), .int .i64 0, .int .i64 0, .int .i64 0, .int .i64 0, .int .i64 0, .int .i64 0, .string (⟨#[]⟩ : ByteArray)]) ?_ 2 _ rfl; (with_reducible repeat (first | refine blk_drewN ?_ _ | refine blk_drew ?_ | refine blk_alloc ?_ _)); refine blk_put (cs := #[.int .i64 ((rd_T45 l0 x13_1).f0), .int .i64 0, .int .i64 0, .int .i64 0, .int .i64 0, .int .i64 0, .int .i64 0, .int .i64 0, .string (⟨#[]⟩ : ByteArray)]) ?_ 1 _ rfl; (with_reducible repeat (first | refine blk_drewN ?_ _ | refine blk_drew ?_ | refine blk_alloc ?_ _)); refine blk_put (cs := #[.int .i64 0, .int .i64 0, .int .i64 0, .int .i64 0, .int .i64 0, .int .i64 0, .int .i64 0, .int .i64 0, .string (⟨#[]⟩ : ByteArray)]) ?_ 0 _ rfl; (with_reducible repeat (first | refine blk_drewN ?_ _ | refine blk_drew ?_ | refine blk_alloc ?_ _)); exact BK144.out⟩, ⟨by repeat (first | (with_reducible first | exact HB.out | apply below_alloc | apply pw_below_drewN | apply below_drew1 | refine below_set ?_ GE144.out) | exact HB.out)⟩⟩
            case rest =>
              clear HC5
              try clear p1
              try clear q1
              try clear hx1
              try clear c2
              try clear c2b0
              try clear p2
              try clear c3
              try clear c3b0
              try clear c4
              try clear c4b0
              try clear c8
              try clear c8b0
              try clear c8b1
              try clear hcz7_0
              try clear hcz7_1
              try clear hcz7_2
              try clear hcz7_3
              try clear hcz7_4
              try clear hcz7_5
              try clear hcz7_6
              try clear hcz7_7
              try clear hcz7_8
              try clear hfz7_0
              try clear hfz7_1
              try clear hfz7_2
              try clear hfz7_3
              try clear hfz7_4
              try clear hfz7_5
              try clear hfz7_6
              try clear hfz7_7
              try clear hfz7_8
              try clear hx143_0
              try clear hx143_1
              try clear hx143_2
              try clear hx143_3
              try clear hx143_4
              try clear hx143_5
              try clear hx143_6
              try clear hx143_7
              try clear hx143_8
              try clear p143
              try clear q143
              obtain ⟨kq, x19_4, rfl, HA, HJ4, HO_4, HO_5, BK144, HB⟩ := hcut
              cases kq with
              | zero => exact absurd HA.out (by simp [clerestoryref3_Flat.j1])
              | succ kj4 =>
                have H := HA.out
                clear HA
                simp only [clerestoryref3_Flat.j1] at H
                by_cases c9 : x19_4 = true
                · subst c9
                  have H1 : (clerestoryref3_Flat.l1 kj4 x4_1 x5_1 l0 (l0.length : Int) x13_1 x4_1 (x4_1.length : Int) 0 ((rd_T45 l0 x13_1).f0) ((rd_T45 l0 x13_1).f1) ((rd_T45 l0 x13_1).f2) ((rd_T45 l0 x13_1).f3) ((rd_T45 l0 x13_1).f4) ((rd_T45 l0 x13_1).f5) ((rd_T45 l0 x13_1).f6) ((rd_T45 l0 x13_1).f7) ((rd_T45 l0 x13_1).f8) (-16777216) (-16777216) 33554432 33554432 1000) = some (r1, r2) := by rw [if_pos rfl] at H; exact H
                  clear H
                  have H := H1
                  clear H1
                  have H' := Aside0.mk H
                  clear H
                  have hcz10_0 : wc.cell? ⟨gb144, 0, none⟩ = some (.int .i64 ((rd_T45 l0 x13_1).f0)) := (blk_cell BK144.out 0).trans rfl
                  have hcz10_1 : wc.cell? ⟨gb144, 1, none⟩ = some (.int .i64 ((rd_T45 l0 x13_1).f1)) := (blk_cell BK144.out 1).trans rfl
                  have hcz10_2 : wc.cell? ⟨gb144, 2, none⟩ = some (.int .i64 ((rd_T45 l0 x13_1).f2)) := (blk_cell BK144.out 2).trans rfl
                  have hcz10_3 : wc.cell? ⟨gb144, 3, none⟩ = some (.int .i64 ((rd_T45 l0 x13_1).f3)) := (blk_cell BK144.out 3).trans rfl
                  have hcz10_4 : wc.cell? ⟨gb144, 4, none⟩ = some (.int .i64 ((rd_T45 l0 x13_1).f4)) := (blk_cell BK144.out 4).trans rfl
                  have hcz10_5 : wc.cell? ⟨gb144, 5, none⟩ = some (.int .i64 ((rd_T45 l0 x13_1).f5)) := (blk_cell BK144.out 5).trans rfl
                  have hcz10_6 : wc.cell? ⟨gb144, 6, none⟩ = some (.int .i64 ((rd_T45 l0 x13_1).f6)) := (blk_cell BK144.out 6).trans rfl
                  have hcz10_7 : wc.cell? ⟨gb144, 7, none⟩ = some (.int .i64 ((rd_T45 l0 x13_1).f7)) := (blk_cell BK144.out 7).trans rfl
                  have hcz10_8 : wc.cell? ⟨gb144, 8, none⟩ = some (.string ((rd_T45 l0 x13_1).f8)) := (blk_cell BK144.out 8).trans rfl
                  have hfz10_0 := blk_frozen BK144.out 0
                  have hfz10_1 := blk_frozen BK144.out 1
                  have hfz10_2 := blk_frozen BK144.out 2
                  have hfz10_3 := blk_frozen BK144.out 3
                  have hfz10_4 := blk_frozen BK144.out 4
                  have hfz10_5 := blk_frozen BK144.out 5
                  have hfz10_6 := blk_frozen BK144.out 6
                  have hfz10_7 := blk_frozen BK144.out 7
                  have hfz10_8 := blk_frozen BK144.out 8
                  go_wp2_with (first | ((with_reducible refine gate_dst (N := 8) rfl ?_); refine box_event ?hg (N := 8) ?hd (cs := #[.int .i64 0, .int .i64 0, .int .i64 0, .int .i64 0, .int .i64 0, .int .i64 0, .int .i64 0, .int .i64 0, .string (⟨#[]⟩ : ByteArray), .int .i64 0, .int .i64 0, .int .i64 0, .int .i64 0, .int .i64 0]) (t := 72) ?hr ?_; (case hd => rfl); (case hg => rfl); (case hr => first | (go_simp; done) | (go_simp; rfl)); intro gb145 hg w11 hbox hb; have n0_ := Aside0.mk (Kd.R_below (by (with_reducible repeat (first | apply Kd.R_alloc | apply Kd.R_drewN | apply Kd.R_drew)); exact HO_4.out) hb); have n1_ := Aside0.mk (Kd.R_below (Kd.R_elderB (by (with_reducible repeat (first | apply Kd.R_alloc | apply Kd.R_drewN | apply Kd.R_drew)); exact HO_5.out) gb145 (Nat.le_of_eq hg.symm)) hb); have n2_ := Aside0.mk (blk_below (g := gb144) (o := .cells #[.int .i64 ((rd_T45 l0 x13_1).f0), .int .i64 ((rd_T45 l0 x13_1).f1), .int .i64 ((rd_T45 l0 x13_1).f2), .int .i64 ((rd_T45 l0 x13_1).f3), .int .i64 ((rd_T45 l0 x13_1).f4), .int .i64 ((rd_T45 l0 x13_1).f5), .int .i64 ((rd_T45 l0 x13_1).f6), .int .i64 ((rd_T45 l0 x13_1).f7), .string ((rd_T45 l0 x13_1).f8)] 45 (0, 0)) (by (with_reducible repeat (first | refine blk_drewN ?_ _ | refine blk_drew ?_ | refine blk_alloc ?_ _)); exact BK144.out) hb); have n3_ := Aside0.mk (below_step (by repeat (first | (with_reducible first | exact HB.out | apply below_alloc | apply pw_below_drewN | apply below_drew1 | refine below_set ?_ GE144.out) | exact HB.out)) hb); have n4_ := Aside0.mk (hbox); have n5_ := Aside0.mk ((by rw [hg]; exact (below_size (by repeat (first | (with_reducible first | exact HB.out | apply below_alloc | apply pw_below_drewN | apply below_drew1 | refine below_set ?_ GE144.out) | exact HB.out))) : w.heap.size ≤ gb145)); have n6_ := Aside0.mk ((by rw [hg]; exact (below_size (by repeat (first | (with_reducible first | exact HB.out | apply below_alloc | apply pw_below_drewN | apply below_drew1 | refine below_set ?_ GE144.out) | exact HB.out))) : w.heap.size ≤ gb145)); have n7_ := Aside0.mk ((by rw [hg]; exact Nat.ne_of_lt (blk_lt (g := gb144) (o := .cells #[.int .i64 ((rd_T45 l0 x13_1).f0), .int .i64 ((rd_T45 l0 x13_1).f1), .int .i64 ((rd_T45 l0 x13_1).f2), .int .i64 ((rd_T45 l0 x13_1).f3), .int .i64 ((rd_T45 l0 x13_1).f4), .int .i64 ((rd_T45 l0 x13_1).f5), .int .i64 ((rd_T45 l0 x13_1).f6), .int .i64 ((rd_T45 l0 x13_1).f7), .string ((rd_T45 l0 x13_1).f8)] 45 (0, 0)) (by (with_reducible repeat (first | refine blk_drewN ?_ _ | refine blk_drew ?_ | refine blk_alloc ?_ _)); exact BK144.out)) : gb144 ≠ gb145)); have n8_ := Aside0.mk ((by rw [hg]; exact Nat.ne_of_gt (blk_lt (g := gb144) (o := .cells #[.int .i64 ((rd_T45 l0 x13_1).f0), .int .i64 ((rd_T45 l0 x13_1).f1), .int .i64 ((rd_T45 l0 x13_1).f2), .int .i64 ((rd_T45 l0 x13_1).f3), .int .i64 ((rd_T45 l0 x13_1).f4), .int .i64 ((rd_T45 l0 x13_1).f5), .int .i64 ((rd_T45 l0 x13_1).f6), .int .i64 ((rd_T45 l0 x13_1).f7), .string ((rd_T45 l0 x13_1).f8)] 45 (0, 0)) (by (with_reducible repeat (first | refine blk_drewN ?_ _ | refine blk_drew ?_ | refine blk_alloc ?_ _)); exact BK144.out)) : gb145 ≠ gb144)); clear HO_4; clear HO_5; clear BK144; clear HB; have HO_4 := n0_; have HO_5 := n1_; have BK144 := n2_; have HB := n3_; have BK145 := n4_; have GW145 := n5_; have GE145 := n6_; have NB144_145 := n7_; have NB145_144 := n8_; clear n0_ n1_ n2_ n3_ n4_ n5_ n6_ n7_ n8_; clear hb hbox hg; have hnb12 := NB145_144.out; have hnc12 := NB144_145.out; have hcz13_0 : w11.cell? ⟨gb145, 0, none⟩ = some (.int .i64 0) := (blk_cell BK145.out 0).trans rfl; have hcz13_1 : w11.cell? ⟨gb145, 1, none⟩ = some (.int .i64 0) := (blk_cell BK145.out 1).trans rfl; have hcz13_2 : w11.cell? ⟨gb145, 2, none⟩ = some (.int .i64 0) := (blk_cell BK145.out 2).trans rfl; have hcz13_3 : w11.cell? ⟨gb145, 3, none⟩ = some (.int .i64 0) := (blk_cell BK145.out 3).trans rfl; have hcz13_4 : w11.cell? ⟨gb145, 4, none⟩ = some (.int .i64 0) := (blk_cell BK145.out 4).trans rfl; have hcz13_5 : w11.cell? ⟨gb145, 5, none⟩ = some (.int .i64 0) := (blk_cell BK145.out 5).trans rfl; have hcz13_6 : w11.cell? ⟨gb145, 6, none⟩ = some (.int .i64 0) := (blk_cell BK145.out 6).trans rfl; have hcz13_7 : w11.cell? ⟨gb145, 7, none⟩ = some (.int .i64 0) := (blk_cell BK145.out 7).trans rfl; have hcz13_8 : w11.cell? ⟨gb145, 8, none⟩ = some (.string (⟨#[]⟩ : ByteArray)) := (blk_cell BK145.out 8).trans rfl; have hcz13_9 : w11.cell? ⟨gb145, 9, none⟩ = some (.int .i64 0) := (blk_cell BK145.out 9).trans rfl; have hcz13_10 : w11.cell? ⟨gb145, 10, none⟩ = some (.int .i64 0) := (blk_cell BK145.out 10).trans rfl; have hcz13_11 : w11.cell? ⟨gb145, 11, none⟩ = some (.int .i64 0) := (blk_cell BK145.out 11).trans rfl; have hcz13_12 : w11.cell? ⟨gb145, 12, none⟩ = some (.int .i64 0) := (blk_cell BK145.out 12).trans rfl; have hcz13_13 : w11.cell? ⟨gb145, 13, none⟩ = some (.int .i64 0) := (blk_cell BK145.out 13).trans rfl; have hfz13_0 := blk_frozen BK145.out 0; have hfz13_1 := blk_frozen BK145.out 1; have hfz13_2 := blk_frozen BK145.out 2; have hfz13_3 := blk_frozen BK145.out 3; have hfz13_4 := blk_frozen BK145.out 4; have hfz13_5 := blk_frozen BK145.out 5; have hfz13_6 := blk_frozen BK145.out 6; have hfz13_7 := blk_frozen BK145.out 7; have hfz13_8 := blk_frozen BK145.out 8; have hfz13_9 := blk_frozen BK145.out 9; have hfz13_10 := blk_frozen BK145.out 10; have hfz13_11 := blk_frozen BK145.out 11; have hfz13_12 := blk_frozen BK145.out 12; have hfz13_13 := blk_frozen BK145.out 13; obtain ⟨Ao14, co14, eo14⟩ := Kd.R_slice HO_4.out; subst eo14))
                  go_loopg [27] kj4 (fun kq v27 w' => ∃ (x27_3 : Int) (x146009_3 : Int) (x146010_3 : Int) (x146011_3 : Int) (x146012_3 : Int) (x146013_3 : Int), v27 = .int .i64 x27_3 ∧ Aside0 (clerestoryref3_Flat.l1 kq x4_1 x5_1 l0 (l0.length : Int) x13_1 x4_1 (x4_1.length : Int) x27_3 ((rd_T45 l0 x13_1).f0) ((rd_T45 l0 x13_1).f1) ((rd_T45 l0 x13_1).f2) ((rd_T45 l0 x13_1).f3) ((rd_T45 l0 x13_1).f4) ((rd_T45 l0 x13_1).f5) ((rd_T45 l0 x13_1).f6) ((rd_T45 l0 x13_1).f7) ((rd_T45 l0 x13_1).f8) x146009_3 x146010_3 x146011_3 x146012_3 x146013_3 = some (r1, r2)) ∧ Aside0 (kq ≤ kj4) ∧ Aside0 (Kd.R k45 45 w' w.heap.size (fun k_ => k_ ≠ gb144) (.slice Ao14 x4_1.length co14) x4_1) ∧ Aside0 (Kd.R k72 72 w' w.heap.size (fun k_ => k_ ≠ gb145) u5 x5_1) ∧ Aside0 (Kd.R k45 45 w' w.heap.size (fun k_ => k_ ≠ gb144) (.slice Ao14 x4_1.length co14) x4_1) ∧ Aside0 (w'.heap[gb144]? = some (.cells #[.int .i64 ((rd_T45 l0 x13_1).f0), .int .i64 ((rd_T45 l0 x13_1).f1), .int .i64 ((rd_T45 l0 x13_1).f2), .int .i64 ((rd_T45 l0 x13_1).f3), .int .i64 ((rd_T45 l0 x13_1).f4), .int .i64 ((rd_T45 l0 x13_1).f5), .int .i64 ((rd_T45 l0 x13_1).f6), .int .i64 ((rd_T45 l0 x13_1).f7), .string ((rd_T45 l0 x13_1).f8)] 45 (0, 0))) ∧ Aside0 (w'.heap[gb145]? = some (.cells #[.int .i64 ((rd_T45 l0 x13_1).f0), .int .i64 ((rd_T45 l0 x13_1).f1), .int .i64 ((rd_T45 l0 x13_1).f2), .int .i64 ((rd_T45 l0 x13_1).f3), .int .i64 ((rd_T45 l0 x13_1).f4), .int .i64 ((rd_T45 l0 x13_1).f5), .int .i64 ((rd_T45 l0 x13_1).f6), .int .i64 ((rd_T45 l0 x13_1).f7), .string ((rd_T45 l0 x13_1).f8), .int .i64 x146009_3, .int .i64 x146010_3, .int .i64 x146011_3, .int .i64 x146012_3, .int .i64 x146013_3] 72 (0, 0))) ∧ Aside0 (Below w.heap.size w w'))
                  case atStart => exact ⟨(0), ((-16777216)), ((-16777216)), (33554432), (33554432), (1000), (by first | rfl | (simp; done) | (simp [*]; done)), H', ⟨Nat.le_refl _⟩, ⟨by (with_reducible repeat (first | apply Kd.R_alloc | apply Kd.R_drewN | apply Kd.R_drew)); exact Kd.R_mono (Kd.R_far (p := ⟨gb145, 13, none⟩) (Kd.R_far (p := ⟨gb145, 12, none⟩) (Kd.R_far (p := ⟨gb145, 11, none⟩) (Kd.R_far (p := ⟨gb145, 10, none⟩) (Kd.R_far (p := ⟨gb145, 9, none⟩) (Kd.R_far (p := ⟨gb145, 8, none⟩) (Kd.R_far (p := ⟨gb145, 7, none⟩) (Kd.R_far (p := ⟨gb145, 6, none⟩) (Kd.R_far (p := ⟨gb145, 5, none⟩) (Kd.R_far (p := ⟨gb145, 4, none⟩) (Kd.R_far (p := ⟨gb145, 3, none⟩) (Kd.R_far (p := ⟨gb145, 2, none⟩) (Kd.R_far (p := ⟨gb145, 1, none⟩) (Kd.R_far (p := ⟨gb145, 0, none⟩) (Kd.R_types HO_4.out BK145.out (by decide)) (fun _ hk => hk.2) (.int .i64 ((rd_T45 l0 x13_1).f0))) (fun _ hk => hk.2) (.int .i64 ((rd_T45 l0 x13_1).f1))) (fun _ hk => hk.2) (.int .i64 ((rd_T45 l0 x13_1).f2))) (fun _ hk => hk.2) (.int .i64 ((rd_T45 l0 x13_1).f3))) (fun _ hk => hk.2) (.int .i64 ((rd_T45 l0 x13_1).f4))) (fun _ hk => hk.2) (.int .i64 ((rd_T45 l0 x13_1).f5))) (fun _ hk => hk.2) (.int .i64 ((rd_T45 l0 x13_1).f6))) (fun _ hk => hk.2) (.int .i64 ((rd_T45 l0 x13_1).f7))) (fun _ hk => hk.2) (.string ((rd_T45 l0 x13_1).f8))) (fun _ hk => hk.2) (.int .i64 (-16777216))) (fun _ hk => hk.2) (.int .i64 (-16777216))) (fun _ hk => hk.2) (.int .i64 33554432)) (fun _ hk => hk.2) (.int .i64 33554432)) (fun _ hk => hk.2) (.int .i64 1000)) (fun _ hk => hk.1)⟩, ⟨by (with_reducible repeat (first | apply Kd.R_alloc | apply Kd.R_drewN | apply Kd.R_drew)); exact Kd.R_mono (Kd.R_far (p := ⟨gb145, 13, none⟩) (Kd.R_far (p := ⟨gb145, 12, none⟩) (Kd.R_far (p := ⟨gb145, 11, none⟩) (Kd.R_far (p := ⟨gb145, 10, none⟩) (Kd.R_far (p := ⟨gb145, 9, none⟩) (Kd.R_far (p := ⟨gb145, 8, none⟩) (Kd.R_far (p := ⟨gb145, 7, none⟩) (Kd.R_far (p := ⟨gb145, 6, none⟩) (Kd.R_far (p := ⟨gb145, 5, none⟩) (Kd.R_far (p := ⟨gb145, 4, none⟩) (Kd.R_far (p := ⟨gb145, 3, none⟩) (Kd.R_far (p := ⟨gb145, 2, none⟩) (Kd.R_far (p := ⟨gb145, 1, none⟩) (Kd.R_far (p := ⟨gb145, 0, none⟩) (Kd.R_mono HO_5.out (fun k_ hk => (⟨hk, hk.2⟩ : _ ∧ k_ ≠ gb145))) (fun _ hk => hk.2) (.int .i64 ((rd_T45 l0 x13_1).f0))) (fun _ hk => hk.2) (.int .i64 ((rd_T45 l0 x13_1).f1))) (fun _ hk => hk.2) (.int .i64 ((rd_T45 l0 x13_1).f2))) (fun _ hk => hk.2) (.int .i64 ((rd_T45 l0 x13_1).f3))) (fun _ hk => hk.2) (.int .i64 ((rd_T45 l0 x13_1).f4))) (fun _ hk => hk.2) (.int .i64 ((rd_T45 l0 x13_1).f5))) (fun _ hk => hk.2) (.int .i64 ((rd_T45 l0 x13_1).f6))) (fun _ hk => hk.2) (.int .i64 ((rd_T45 l0 x13_1).f7))) (fun _ hk => hk.2) (.string ((rd_T45 l0 x13_1).f8))) (fun _ hk => hk.2) (.int .i64 (-16777216))) (fun _ hk => hk.2) (.int .i64 (-16777216))) (fun _ hk => hk.2) (.int .i64 33554432)) (fun _ hk => hk.2) (.int .i64 33554432)) (fun _ hk => hk.2) (.int .i64 1000)) (fun _ hk => hk.1.2)⟩, ⟨by (with_reducible repeat (first | apply Kd.R_alloc | apply Kd.R_drewN | apply Kd.R_drew)); exact Kd.R_mono (Kd.R_far (p := ⟨gb145, 13, none⟩) (Kd.R_far (p := ⟨gb145, 12, none⟩) (Kd.R_far (p := ⟨gb145, 11, none⟩) (Kd.R_far (p := ⟨gb145, 10, none⟩) (Kd.R_far (p := ⟨gb145, 9, none⟩) (Kd.R_far (p := ⟨gb145, 8, none⟩) (Kd.R_far (p := ⟨gb145, 7, none⟩) (Kd.R_far (p := ⟨gb145, 6, none⟩) (Kd.R_far (p := ⟨gb145, 5, none⟩) (Kd.R_far (p := ⟨gb145, 4, none⟩) (Kd.R_far (p := ⟨gb145, 3, none⟩) (Kd.R_far (p := ⟨gb145, 2, none⟩) (Kd.R_far (p := ⟨gb145, 1, none⟩) (Kd.R_far (p := ⟨gb145, 0, none⟩) (Kd.R_types HO_4.out BK145.out (by decide)) (fun _ hk => hk.2) (.int .i64 ((rd_T45 l0 x13_1).f0))) (fun _ hk => hk.2) (.int .i64 ((rd_T45 l0 x13_1).f1))) (fun _ hk => hk.2) (.int .i64 ((rd_T45 l0 x13_1).f2))) (fun _ hk => hk.2) (.int .i64 ((rd_T45 l0 x13_1).f3))) (fun _ hk => hk.2) (.int .i64 ((rd_T45 l0 x13_1).f4))) (fun _ hk => hk.2) (.int .i64 ((rd_T45 l0 x13_1).f5))) (fun _ hk => hk.2) (.int .i64 ((rd_T45 l0 x13_1).f6))) (fun _ hk => hk.2) (.int .i64 ((rd_T45 l0 x13_1).f7))) (fun _ hk => hk.2) (.string ((rd_T45 l0 x13_1).f8))) (fun _ hk => hk.2) (.int .i64 (-16777216))) (fun _ hk => hk.2) (.int .i64 (-16777216))) (fun _ hk => hk.2) (.int .i64 33554432)) (fun _ hk => hk.2) (.int .i64 33554432)) (fun _ hk => hk.2) (.int .i64 1000)) (fun _ hk => hk.1)⟩, ⟨by (with_reducible repeat (first | refine blk_drewN ?_ _ | refine blk_drew ?_ | refine blk_alloc ?_ _)); refine blk_far ?_ NB144_145.out _; (with_reducible repeat (first | refine blk_drewN ?_ _ | refine blk_drew ?_ | refine blk_alloc ?_ _)); refine blk_far ?_ NB144_145.out _; (with_reducible repeat (first | refine blk_drewN ?_ _ | refine blk_drew ?_ | refine blk_alloc ?_ _)); refine blk_far ?_ NB144_145.out _; (with_reducible repeat (first | refine blk_drewN ?_ _ | refine blk_drew ?_ | refine blk_alloc ?_ _)); refine blk_far ?_ NB144_145.out _; (with_reducible repeat (first | refine blk_drewN ?_ _ | refine blk_drew ?_ | refine blk_alloc ?_ _)); refine blk_far ?_ NB144_145.out _; (with_reducible repeat (first | refine blk_drewN ?_ _ | refine blk_drew ?_ | refine blk_alloc ?_ _)); refine blk_far ?_ NB144_145.out _; (with_reducible repeat (first | refine blk_drewN ?_ _ | refine blk_drew ?_ | refine blk_alloc ?_ _)); refine blk_far ?_ NB144_145.out _; (with_reducible repeat (first | refine blk_drewN ?_ _ | refine blk_drew ?_ | refine blk_alloc ?_ _)); refine blk_far ?_ NB144_145.out _; (with_reducible repeat (first | refine blk_drewN ?_ _ | refine blk_drew ?_ | refine blk_alloc ?_ _)); refine blk_far ?_ NB144_145.out _; (with_reducible repeat (first | refine blk_drewN ?_ _ | refine blk_drew ?_ | refine blk_alloc ?_ _)); refine blk_far ?_ NB144_145.out _; (with_reducible repeat (first | refine blk_drewN ?_ _ | refine blk_drew ?_ | refine blk_alloc ?_ _)); refine blk_far ?_ NB144_145.out _; (with_reducible repeat (first | refine blk_drewN ?_ _ | refine blk_drew ?_ | refine blk_alloc ?_ _)); refine blk_far ?_ NB144_145.out _; (with_reducible repeat (first | refine blk_drewN ?_ _ | refine blk_drew ?_ | refine blk_alloc ?_ _)); refine blk_far ?_ NB144_145.out _; (with_reducible repeat (first | refine blk_drewN ?_ _ | refine blk_drew ?_ | refine blk_alloc ?_ _)); refine blk_far ?_ NB144_145.out _; (with_reducible repeat (first | refine blk_drewN ?_ _ | refine blk_drew ?_ | refine blk_alloc ?_ _)); exact BK144.out⟩, ⟨by (with_reducible repeat (first | refine blk_drewN ?_ _ | refine blk_drew ?_ | refine blk_alloc ?_ _)); refine blk_put (cs := #[.int .i64 ((rd_T45 l0 x13_1).f0), .int .i64 ((rd_T45 l0 x13_1).f1), .int .i64 ((rd_T45 l0 x13_1).f2), .int .i64 ((rd_T45 l0 x13_1).f3), .int .i64 ((rd_T45 l0 x13_1).f4), .int .i64 ((rd_T45 l0 x13_1).f5), .int .i64 ((rd_T45 l0 x13_1).f6), .int .i64 ((rd_T45 l0 x13_1).f7), .string ((rd_T45 l0 x13_1).f8), .int .i64 (-16777216), .int .i64 (-16777216), .int .i64 33554432, .int .i64 33554432, .int .i64 0]) ?_ 13 _ rfl; (with_reducible repeat (first | refine blk_drewN ?_ _ | refine blk_drew ?_ | refine blk_alloc ?_ _)); refine blk_put (cs := #[.int .i64 ((rd_T45 l0 x13_1).f0), .int .i64 ((rd_T45 l0 x13_1).f1), .int .i64 ((rd_T45 l0 x13_1).f2), .int .i64 ((rd_T45 l0 x13_1).f3), .int .i64 ((rd_T45 l0 x13_1).f4), .int .i64 ((rd_T45 l0 x13_1).f5), .int .i64 ((rd_T45 l0 x13_1).f6), .int .i64 ((rd_T45 l0 x13_1).f7), .string ((rd_T45 l0 x13_1).f8), .int .i64 (-16777216), .int .i64 (-16777216), .int .i64 33554432, .int .i64 0, .int .i64 0]) ?_ 12 _ rfl; (with_reducible repeat (first | refine blk_drewN ?_ _ | refine blk_drew ?_ | refine blk_alloc ?_ _)); refine blk_put (cs := #[.int .i64 ((rd_T45 l0 x13_1).f0), .int .i64 ((rd_T45 l0 x13_1).f1), .int .i64 ((rd_T45 l0 x13_1).f2), .int .i64 ((rd_T45 l0 x13_1).f3), .int .i64 ((rd_T45 l0 x13_1).f4), .int .i64 ((rd_T45 l0 x13_1).f5), .int .i64 ((rd_T45 l0 x13_1).f6), .int .i64 ((rd_T45 l0 x13_1).f7), .string ((rd_T45 l0 x13_1).f8), .int .i64 (-16777216), .int .i64 (-16777216), .int .i64 0, .int .i64 0, .int .i64 0]) ?_ 11 _ rfl; (with_reducible repeat (first | refine blk_drewN ?_ _ | refine blk_drew ?_ | refine blk_alloc ?_ _)); refine blk_put (cs := #[.int .i64 ((rd_T45 l0 x13_1).f0), .int .i64 ((rd_T45 l0 x13_1).f1), .int .i64 ((rd_T45 l0 x13_1).f2), .int .i64 ((rd_T45 l0 x13_1).f3), .int .i64 ((rd_T45 l0 x13_1).f4), .int .i64 ((rd_T45 l0 x13_1).f5), .int .i64 ((rd_T45 l0 x13_1).f6), .int .i64 ((rd_T45 l0 x13_1).f7), .string ((rd_T45 l0 x13_1).f8), .int .i64 (-16777216), .int .i64 0, .int .i64 0, .int .i64 0, .int .i64 0]) ?_ 10 _ rfl; (with_reducible repeat (first | refine blk_drewN ?_ _ | refine blk_drew ?_ | refine blk_alloc ?_ _)); refine blk_put (cs := #[.int .i64 ((rd_T45 l0 x13_1).f0), .int .i64 ((rd_T45 l0 x13_1).f1), .int .i64 ((rd_T45 l0 x13_1).f2), .int .i64 ((rd_T45 l0 x13_1).f3), .int .i64 ((rd_T45 l0 x13_1).f4), .int .i64 ((rd_T45 l0 x13_1).f5), .int .i64 ((rd_T45 l0 x13_1).f6), .int .i64 ((rd_T45 l0 x13_1).f7), .string ((rd_T45 l0 x13_1).f8), .int .i64 0, .int .i64 0, .int .i64 0, .int .i64 0, .int .i64 0]) ?_ 9 _ rfl; (with_reducible repeat (first | refine blk_drewN ?_ _ | refine blk_drew ?_ | refine blk_alloc ?_ _)); refine blk_put (cs := #[.int .i64 ((rd_T45 l0 x13_1).f0), .int .i64 ((rd_T45 l0 x13_1).f1), .int .i64 ((rd_T45 l0 x13_1).f2), .int .i64 ((rd_T45 l0 x13_1).f3), .int .i64 ((rd_T45 l0 x13_1).f4), .int .i64 ((rd_T45 l0 x13_1).f5), .int .i64 ((rd_T45 l0 x13_1).f6), .int .i64 ((rd_T45 l0 x13_1).f7), .string (⟨#[]⟩ : ByteArray), .int .i64 0, .int .i64 0, .int .i64 0, .int .i64 0, .int .i64 0]) ?_ 8 _ rfl; (with_reducible repeat (first | refine blk_drewN ?_ _ | refine blk_drew ?_ | refine blk_alloc ?_ _)); refine blk_put (cs := #[.int .i64 ((rd_T45 l0 x13_1).f0), .int .i64 ((rd_T45 l0 x13_1).f1), .int .i64 ((rd_T45 l0 x13_1).f2), .int .i64 ((rd_T45 l0 x13_1).f3), .int .i64 ((rd_T45 l0 x13_1).f4), .int .i64 ((rd_T45 l0 x13_1).f5), .int .i64 ((rd_T45 l0 x13_1).f6), .int .i64 0, .string (⟨#[]⟩ : ByteArray), .int .i64 0, .int .i64 0, .int .i64 0, .int .i64 0, .int .i64 0]) ?_ 7 _ rfl; (with_reducible repeat (first | refine blk_drewN ?_ _ | refine blk_drew ?_ | refine blk_alloc ?_ _)); refine blk_put (cs := #[.int .i64 ((rd_T45 l0 x13_1).f0), .int .i64 ((rd_T45 l0 x13_1).f1), .int .i64 ((rd_T45 l0 x13_1).f2), .int .i64 ((rd_T45 l0 x13_1).f3), .int .i64 ((rd_T45 l0 x13_1).f4), .int .i64 ((rd_T45 l0 x13_1).f5), .int .i64 0, .int .i64 0, .string (⟨#[]⟩ : ByteArray), .int .i64 0, .int .i64 0, .int .i64 0, .int .i64 0, .int .i64 0]) ?_ 6 _ rfl; (with_reducible repeat (first | refine blk_drewN ?_ _ | refine blk_drew ?_ | refine blk_alloc ?_ _)); refine blk_put (cs := #[.int .i64 ((rd_T45 l0 x13_1).f0), .int .i64 ((rd_T45 l0 x13_1).f1), .int .i64 ((rd_T45 l0 x13_1).f2), .int .i64 ((rd_T45 l0 x13_1).f3), .int .i64 ((rd_T45 l0 x13_1).f4), .int .i64 0, .int .i64 0, .int .i64 0, .string (⟨#[]⟩ : ByteArray), .int .i64 0, .int .i64 0, .int .i64 0, .int .i64 0, .int .i64 0]) ?_ 5 _ rfl; (with_reducible repeat (first | refine blk_drewN ?_ _ | refine blk_drew ?_ | refine blk_alloc ?_ _)); refine blk_put (cs := #[.int .i64 ((rd_T45 l0 x13_1).f0), .int .i64 ((rd_T45 l0 x13_1).f1), .int .i64 ((rd_T45 l0 x13_1).f2), .int .i64 ((rd_T45 l0 x13_1).f3), .int .i64 0, .int .i64 0, .int .i64 0, .int .i64 0, .string (⟨#[]⟩ : ByteArray), .int .i64 0, .int .i64 0, .int .i64 0, .int .i64 0, .int .i64 0]) ?_ 4 _ rfl; (with_reducible repeat (first | refine blk_drewN ?_ _ | refine blk_drew ?_ | refine blk_alloc ?_ _)); refine blk_put (cs := #[.int .i64 ((rd_T45 l0 x13_1).f0), .int .i64 ((rd_T45 l0 x13_1).f1), .int .i64 ((rd_T45 l0 x13_1).f2), .int .i64 0, .int .i64 0, .int .i64 0, .int .i64 0, .int .i64 0, .string (⟨#[]⟩ : ByteArray), .int .i64 0, .int .i64 0, .int .i64 0, .int .i64 0, .int .i64 0]) ?_ 3 _ rfl; (with_reducible repeat (first | refine blk_drewN ?_ _ | refine blk_drew ?_ | refine blk_alloc ?_ _)); refine blk_put (cs := #[.int .i64 ((rd_T45 l0 x13_1).f0), .int .i64 ((rd_T45 l0 x13_1).f1), .int .i64 0, .int .i64 0, .int .i64 0, .int .i64 0, .int .i64 0, .int .i64 0, .string (⟨#[]⟩ : ByteArray), .int .i64 0, .int .i64 0, .int .i64 0, .int .i64 0, .int .i64 0]) ?_ 2 _ rfl; (with_reducible repeat (first | refine blk_drewN ?_ _ | refine blk_drew ?_ | refine blk_alloc ?_ _)); refine blk_put (cs := #[.int .i64 ((rd_T45 l0 x13_1).f0), .int .i64 0, .int .i64 0, .int .i64 0, .int .i64 0, .int .i64 0, .int .i64 0, .int .i64 0, .string (⟨#[]⟩ : ByteArray), .int .i64 0, .int .i64 0, .int .i64 0, .int .i64 0, .int .i64 0]) ?_ 1 _ rfl; (with_reducible repeat (first | refine blk_drewN ?_ _ | refine blk_drew ?_ | refine blk_alloc ?_ _)); refine blk_put (cs := #[.int .i64 0, .int .i64 0, .int .i64 0, .int .i64 0, .int .i64 0, .int .i64 0, .int .i64 0, .int .i64 0, .string (⟨#[]⟩ : ByteArray), .int .i64 0, .int .i64 0, .int .i64 0, .int .i64 0, .int .i64 0]) ?_ 0 _ rfl; (with_reducible repeat (first | refine blk_drewN ?_ _ | refine blk_drew ?_ | refine blk_alloc ?_ _)); exact BK145.out⟩, ⟨by repeat (first | (with_reducible first | exact HB.out | apply below_alloc | apply pw_below_drewN | apply below_drew1 | refine below_set ?_ GE144.out | refine below_set ?_ GE145.out) | exact HB.out)⟩⟩
                  case round =>
                    clear H'
                    try clear c1
                    try clear p1
                    try clear q1
                    try clear hx1
                    try clear c2
                    try clear c2b0
                    try clear p2
                    try clear c3
                    try clear c3b0
                    try clear c4
                    try clear c4b0
                    try clear c8
                    try clear c8b0
                    try clear c8b1
                    try clear c9
                    try clear c12
                    try clear p14
                    try clear q14
                    try clear hx14
                    try clear hcz10_0
                    try clear hcz10_1
                    try clear hcz10_2
                    try clear hcz10_3
                    try clear hcz10_4
                    try clear hcz10_5
                    try clear hcz10_6
                    try clear hcz10_7
                    try clear hcz10_8
                    try clear hcz13_0
                    try clear hcz13_1
                    try clear hcz13_10
                    try clear hcz13_11
                    try clear hcz13_12
                    try clear hcz13_13
                    try clear hcz13_2
                    try clear hcz13_3
                    try clear hcz13_4
                    try clear hcz13_5
                    try clear hcz13_6
                    try clear hcz13_7
                    try clear hcz13_8
                    try clear hcz13_9
                    try clear hcz7_0
                    try clear hcz7_1
                    try clear hcz7_2
                    try clear hcz7_3
                    try clear hcz7_4
                    try clear hcz7_5
                    try clear hcz7_6
                    try clear hcz7_7
                    try clear hcz7_8
                    try clear hfz10_0
                    try clear hfz10_1
                    try clear hfz10_2
                    try clear hfz10_3
                    try clear hfz10_4
                    try clear hfz10_5
                    try clear hfz10_6
                    try clear hfz10_7
                    try clear hfz10_8
                    try clear hfz13_0
                    try clear hfz13_1
                    try clear hfz13_10
                    try clear hfz13_11
                    try clear hfz13_12
                    try clear hfz13_13
                    try clear hfz13_2
                    try clear hfz13_3
                    try clear hfz13_4
                    try clear hfz13_5
                    try clear hfz13_6
                    try clear hfz13_7
                    try clear hfz13_8
                    try clear hfz13_9
                    try clear hfz7_0
                    try clear hfz7_1
                    try clear hfz7_2
                    try clear hfz7_3
                    try clear hfz7_4
                    try clear hfz7_5
                    try clear hfz7_6
                    try clear hfz7_7
                    try clear hfz7_8
                    try clear hx143_0
                    try clear hx143_1
                    try clear hx143_2
                    try clear hx143_3
                    try clear hx143_4
                    try clear hx143_5
                    try clear hx143_6
                    try clear hx143_7
                    try clear hx143_8
                    try clear p1
                    try clear p143
                    try clear p2
                    try clear q1
                    try clear q143
                    obtain ⟨x27_3, x146009_3, x146010_3, x146011_3, x146012_3, x146013_3, rfl, HA, HK3, HO_4, HO_5, HO_25, BK144, BK145, HB⟩ := hrel
                    cases gk with
                    | zero => exact absurd HA.out (by simp [clerestoryref3_Flat.l1])
                    | succ k3 =>
                      have H := HA.out
                      clear HA
                      simp only [clerestoryref3_Flat.l1] at H
                      by_cases c15 : x27_3 < (x4_1.length : Int)
                      · rw [if_pos c15] at H
                        have c15b0 : decide (x27_3 < (x4_1.length : Int)) = true := decide_eq_true c15
                        clear c15
                        by_cases c16 : 0 ≤ x27_3
                        · rw [if_pos c16] at H
                          have c16b0 : decide (0 ≤ x27_3) = true := decide_eq_true c16
                          clear c16
                          by_cases c17 : x27_3 < (x4_1.length : Int)
                          · rw [if_pos c17] at H
                            have c17b0 : decide (x27_3 < (x4_1.length : Int)) = true := decide_eq_true c17
                            clear c17
                            by_cases c18 : ((rd_T45 x4_1 x27_3).f0) = 3
                            · rw [if_pos c18] at H
                              have c18b0 : (((rd_T45 x4_1 x27_3).f0) == 3) = true := beq_iff_eq.mpr c18
                              have c18b1 : (((rd_T45 x4_1 x27_3).f0) != 3) = false := bne_eq_false_iff_eq.mpr c18
                              clear c18
                              replace H := Option.bind_eq_some_iff.mp H
                              obtain ⟨t154, A190, H⟩ := H
                              replace H : ((clerestoryref3_Cut.f ((rd_T45 x4_1 x27_3).f3)).bind fun t155 => ((clerestoryref3_Cut.f ((rd_T45 x4_1 x27_3).f4)).bind fun t156 => ((clerestoryref3_Cut.f ((rd_T45 x4_1 x27_3).f5)).bind fun t157 => ((clerestoryref3_Meets.f x146009_3 x146010_3 x146011_3 x146012_3 t154 t155 t156 t157).bind fun bt158 => (clerestoryref3_Flat.l1 k3 x4_1 x5_1 l0 (l0.length : Int) x13_1 x4_1 (x4_1.length : Int) (wrap64 (x27_3 + 1)) ((rd_T45 l0 x13_1).f0) ((rd_T45 l0 x13_1).f1) ((rd_T45 l0 x13_1).f2) ((rd_T45 l0 x13_1).f3) ((rd_T45 l0 x13_1).f4) ((rd_T45 l0 x13_1).f5) ((rd_T45 l0 x13_1).f6) ((rd_T45 l0 x13_1).f7) ((rd_T45 l0 x13_1).f8) bt158.1 bt158.2.1 bt158.2.2.1 bt158.2.2.2 x146013_3))))) = some (r1, r2) := H
                              have A19 := Aside0.mk A190
                              clear A190
                              replace H := Option.bind_eq_some_iff.mp H
                              obtain ⟨t155, A200, H⟩ := H
                              replace H : ((clerestoryref3_Cut.f ((rd_T45 x4_1 x27_3).f4)).bind fun t156 => ((clerestoryref3_Cut.f ((rd_T45 x4_1 x27_3).f5)).bind fun t157 => ((clerestoryref3_Meets.f x146009_3 x146010_3 x146011_3 x146012_3 t154 t155 t156 t157).bind fun bt158 => (clerestoryref3_Flat.l1 k3 x4_1 x5_1 l0 (l0.length : Int) x13_1 x4_1 (x4_1.length : Int) (wrap64 (x27_3 + 1)) ((rd_T45 l0 x13_1).f0) ((rd_T45 l0 x13_1).f1) ((rd_T45 l0 x13_1).f2) ((rd_T45 l0 x13_1).f3) ((rd_T45 l0 x13_1).f4) ((rd_T45 l0 x13_1).f5) ((rd_T45 l0 x13_1).f6) ((rd_T45 l0 x13_1).f7) ((rd_T45 l0 x13_1).f8) bt158.1 bt158.2.1 bt158.2.2.1 bt158.2.2.2 x146013_3)))) = some (r1, r2) := H
                              have A20 := Aside0.mk A200
                              clear A200
                              replace H := Option.bind_eq_some_iff.mp H
                              obtain ⟨t156, A210, H⟩ := H
                              replace H : ((clerestoryref3_Cut.f ((rd_T45 x4_1 x27_3).f5)).bind fun t157 => ((clerestoryref3_Meets.f x146009_3 x146010_3 x146011_3 x146012_3 t154 t155 t156 t157).bind fun bt158 => (clerestoryref3_Flat.l1 k3 x4_1 x5_1 l0 (l0.length : Int) x13_1 x4_1 (x4_1.length : Int) (wrap64 (x27_3 + 1)) ((rd_T45 l0 x13_1).f0) ((rd_T45 l0 x13_1).f1) ((rd_T45 l0 x13_1).f2) ((rd_T45 l0 x13_1).f3) ((rd_T45 l0 x13_1).f4) ((rd_T45 l0 x13_1).f5) ((rd_T45 l0 x13_1).f6) ((rd_T45 l0 x13_1).f7) ((rd_T45 l0 x13_1).f8) bt158.1 bt158.2.1 bt158.2.2.1 bt158.2.2.2 x146013_3))) = some (r1, r2) := H
                              have A21 := Aside0.mk A210
                              clear A210
                              replace H := Option.bind_eq_some_iff.mp H
                              obtain ⟨t157, A220, H⟩ := H
                              replace H : ((clerestoryref3_Meets.f x146009_3 x146010_3 x146011_3 x146012_3 t154 t155 t156 t157).bind fun bt158 => (clerestoryref3_Flat.l1 k3 x4_1 x5_1 l0 (l0.length : Int) x13_1 x4_1 (x4_1.length : Int) (wrap64 (x27_3 + 1)) ((rd_T45 l0 x13_1).f0) ((rd_T45 l0 x13_1).f1) ((rd_T45 l0 x13_1).f2) ((rd_T45 l0 x13_1).f3) ((rd_T45 l0 x13_1).f4) ((rd_T45 l0 x13_1).f5) ((rd_T45 l0 x13_1).f6) ((rd_T45 l0 x13_1).f7) ((rd_T45 l0 x13_1).f8) bt158.1 bt158.2.1 bt158.2.2.1 bt158.2.2.2 x146013_3)) = some (r1, r2) := H
                              have A22 := Aside0.mk A220
                              clear A220
                              replace H := Option.bind_eq_some_iff.mp H
                              obtain ⟨⟨t158, t159, t160, t161⟩, A230, H⟩ := H
                              replace H : (clerestoryref3_Flat.l1 k3 x4_1 x5_1 l0 (l0.length : Int) x13_1 x4_1 (x4_1.length : Int) (wrap64 (x27_3 + 1)) ((rd_T45 l0 x13_1).f0) ((rd_T45 l0 x13_1).f1) ((rd_T45 l0 x13_1).f2) ((rd_T45 l0 x13_1).f3) ((rd_T45 l0 x13_1).f4) ((rd_T45 l0 x13_1).f5) ((rd_T45 l0 x13_1).f6) ((rd_T45 l0 x13_1).f7) ((rd_T45 l0 x13_1).f8) t158 t159 t160 t161 x146013_3) = some (r1, r2) := H
                              have A23 := Aside0.mk A230
                              clear A230
                              have H' := Aside0.mk H
                              clear H
                              have p152 : 0 ≤ (x27_3 : Int) := of_decide_eq_true (by first | (with_reducible assumption) | assumption)
                              have q152 : x27_3 < (x4_1.length : Int) := of_decide_eq_true (by first | (with_reducible assumption) | assumption)
                              obtain ⟨ad152, e152, hx152_0, hx152_1, hx152_2, hx152_3, hx152_4, hx152_5, hx152_6, hx152_7, hx152_8⟩ := at_T45 (Kd.R_reads' HO_25.out).2.2 x27_3 p152 q152
                              cases e152
                              replace p152 := eq_true p152
                              replace q152 := eq_true q152
                              try go_wp2_with (first | ((with_reducible refine gate_dst (N := 10) rfl ?_); refine box_event ?hg (N := 10) ?hd (cs := #[.int .i64 0, .int .i64 0, .int .i64 0, .int .i64 0, .int .i64 0, .int .i64 0, .int .i64 0, .int .i64 0, .string (⟨#[]⟩ : ByteArray)]) (t := 45) ?hr ?_; (case hd => rfl); (case hg => rfl); (case hr => first | (go_simp; done) | (go_simp; rfl)); intro gb153 hg w24 hbox hb; have n0_ := Aside0.mk (Kd.R_below (Kd.R_elderB (by (with_reducible repeat (first | apply Kd.R_alloc | apply Kd.R_drewN | apply Kd.R_drew)); exact HO_4.out) gb153 (Nat.le_of_eq hg.symm)) hb); have n1_ := Aside0.mk (Kd.R_below (by (with_reducible repeat (first | apply Kd.R_alloc | apply Kd.R_drewN | apply Kd.R_drew)); exact HO_5.out) hb); have n2_ := Aside0.mk (Kd.R_below (Kd.R_elderB (by (with_reducible repeat (first | apply Kd.R_alloc | apply Kd.R_drewN | apply Kd.R_drew)); exact HO_25.out) gb153 (Nat.le_of_eq hg.symm)) hb); have n3_ := Aside0.mk (blk_below (g := gb144) (o := .cells #[.int .i64 ((rd_T45 l0 x13_1).f0), .int .i64 ((rd_T45 l0 x13_1).f1), .int .i64 ((rd_T45 l0 x13_1).f2), .int .i64 ((rd_T45 l0 x13_1).f3), .int .i64 ((rd_T45 l0 x13_1).f4), .int .i64 ((rd_T45 l0 x13_1).f5), .int .i64 ((rd_T45 l0 x13_1).f6), .int .i64 ((rd_T45 l0 x13_1).f7), .string ((rd_T45 l0 x13_1).f8)] 45 (0, 0)) (by (with_reducible repeat (first | refine blk_drewN ?_ _ | refine blk_drew ?_ | refine blk_alloc ?_ _)); exact BK144.out) hb); have n4_ := Aside0.mk (blk_below (g := gb145) (o := .cells #[.int .i64 ((rd_T45 l0 x13_1).f0), .int .i64 ((rd_T45 l0 x13_1).f1), .int .i64 ((rd_T45 l0 x13_1).f2), .int .i64 ((rd_T45 l0 x13_1).f3), .int .i64 ((rd_T45 l0 x13_1).f4), .int .i64 ((rd_T45 l0 x13_1).f5), .int .i64 ((rd_T45 l0 x13_1).f6), .int .i64 ((rd_T45 l0 x13_1).f7), .string ((rd_T45 l0 x13_1).f8), .int .i64 x146009_3, .int .i64 x146010_3, .int .i64 x146011_3, .int .i64 x146012_3, .int .i64 x146013_3] 72 (0, 0)) (by (with_reducible repeat (first | refine blk_drewN ?_ _ | refine blk_drew ?_ | refine blk_alloc ?_ _)); exact BK145.out) hb); have n5_ := Aside0.mk (below_step (by repeat (first | (with_reducible first | exact HB.out | apply below_alloc | apply pw_below_drewN | apply below_drew1 | refine below_set ?_ GE144.out | refine below_set ?_ GE145.out) | exact HB.out)) hb); have n6_ := Aside0.mk (hbox); have n7_ := Aside0.mk ((by rw [hg]; exact (below_size (by repeat (first | (with_reducible first | exact HB.out | apply below_alloc | apply pw_below_drewN | apply below_drew1 | refine below_set ?_ GE144.out | refine below_set ?_ GE145.out) | exact HB.out))) : w.heap.size ≤ gb153)); have n8_ := Aside0.mk ((by rw [hg]; exact (below_size (by repeat (first | (with_reducible first | exact HB.out | apply below_alloc | apply pw_below_drewN | apply below_drew1 | refine below_set ?_ GE144.out | refine below_set ?_ GE145.out) | exact HB.out))) : w.heap.size ≤ gb153)); have n9_ := Aside0.mk ((by rw [hg]; exact Nat.ne_of_lt (blk_lt (g := gb144) (o := .cells #[.int .i64 ((rd_T45 l0 x13_1).f0), .int .i64 ((rd_T45 l0 x13_1).f1), .int .i64 ((rd_T45 l0 x13_1).f2), .int .i64 ((rd_T45 l0 x13_1).f3), .int .i64 ((rd_T45 l0 x13_1).f4), .int .i64 ((rd_T45 l0 x13_1).f5), .int .i64 ((rd_T45 l0 x13_1).f6), .int .i64 ((rd_T45 l0 x13_1).f7), .string ((rd_T45 l0 x13_1).f8)] 45 (0, 0)) (by (with_reducible repeat (first | refine blk_drewN ?_ _ | refine blk_drew ?_ | refine blk_alloc ?_ _)); exact BK144.out)) : gb144 ≠ gb153)); have n10_ := Aside0.mk ((by rw [hg]; exact Nat.ne_of_gt (blk_lt (g := gb144) (o := .cells #[.int .i64 ((rd_T45 l0 x13_1).f0), .int .i64 ((rd_T45 l0 x13_1).f1), .int .i64 ((rd_T45 l0 x13_1).f2), .int .i64 ((rd_T45 l0 x13_1).f3), .int .i64 ((rd_T45 l0 x13_1).f4), .int .i64 ((rd_T45 l0 x13_1).f5), .int .i64 ((rd_T45 l0 x13_1).f6), .int .i64 ((rd_T45 l0 x13_1).f7), .string ((rd_T45 l0 x13_1).f8)] 45 (0, 0)) (by (with_reducible repeat (first | refine blk_drewN ?_ _ | refine blk_drew ?_ | refine blk_alloc ?_ _)); exact BK144.out)) : gb153 ≠ gb144)); have n11_ := Aside0.mk ((by rw [hg]; exact Nat.ne_of_lt (blk_lt (g := gb145) (o := .cells #[.int .i64 ((rd_T45 l0 x13_1).f0), .int .i64 ((rd_T45 l0 x13_1).f1), .int .i64 ((rd_T45 l0 x13_1).f2), .int .i64 ((rd_T45 l0 x13_1).f3), .int .i64 ((rd_T45 l0 x13_1).f4), .int .i64 ((rd_T45 l0 x13_1).f5), .int .i64 ((rd_T45 l0 x13_1).f6), .int .i64 ((rd_T45 l0 x13_1).f7), .string ((rd_T45 l0 x13_1).f8), .int .i64 x146009_3, .int .i64 x146010_3, .int .i64 x146011_3, .int .i64 x146012_3, .int .i64 x146013_3] 72 (0, 0)) (by (with_reducible repeat (first | refine blk_drewN ?_ _ | refine blk_drew ?_ | refine blk_alloc ?_ _)); exact BK145.out)) : gb145 ≠ gb153)); have n12_ := Aside0.mk ((by rw [hg]; exact Nat.ne_of_gt (blk_lt (g := gb145) (o := .cells #[.int .i64 ((rd_T45 l0 x13_1).f0), .int .i64 ((rd_T45 l0 x13_1).f1), .int .i64 ((rd_T45 l0 x13_1).f2), .int .i64 ((rd_T45 l0 x13_1).f3), .int .i64 ((rd_T45 l0 x13_1).f4), .int .i64 ((rd_T45 l0 x13_1).f5), .int .i64 ((rd_T45 l0 x13_1).f6), .int .i64 ((rd_T45 l0 x13_1).f7), .string ((rd_T45 l0 x13_1).f8), .int .i64 x146009_3, .int .i64 x146010_3, .int .i64 x146011_3, .int .i64 x146012_3, .int .i64 x146013_3] 72 (0, 0)) (by (with_reducible repeat (first | refine blk_drewN ?_ _ | refine blk_drew ?_ | refine blk_alloc ?_ _)); exact BK145.out)) : gb153 ≠ gb145)); clear HO_4; clear HO_5; clear HO_25; clear BK144; clear BK145; clear HB; have HO_4 := n0_; have HO_5 := n1_; have HO_25 := n2_; have BK144 := n3_; have BK145 := n4_; have HB := n5_; have BK153 := n6_; have GW153 := n7_; have GE153 := n8_; have NB144_153 := n9_; have NB153_144 := n10_; have NB145_153 := n11_; have NB153_145 := n12_; clear n0_ n1_ n2_ n3_ n4_ n5_ n6_ n7_ n8_ n9_ n10_ n11_ n12_; clear hb hbox hg; have hnb25 := NB153_144.out; have hnc25 := NB144_153.out; have hnb26 := NB153_145.out; have hnc26 := NB145_153.out; have hcz27_0 : w24.cell? ⟨gb153, 0, none⟩ = some (.int .i64 0) := (blk_cell BK153.out 0).trans rfl; have hcz27_1 : w24.cell? ⟨gb153, 1, none⟩ = some (.int .i64 0) := (blk_cell BK153.out 1).trans rfl; have hcz27_2 : w24.cell? ⟨gb153, 2, none⟩ = some (.int .i64 0) := (blk_cell BK153.out 2).trans rfl; have hcz27_3 : w24.cell? ⟨gb153, 3, none⟩ = some (.int .i64 0) := (blk_cell BK153.out 3).trans rfl; have hcz27_4 : w24.cell? ⟨gb153, 4, none⟩ = some (.int .i64 0) := (blk_cell BK153.out 4).trans rfl; have hcz27_5 : w24.cell? ⟨gb153, 5, none⟩ = some (.int .i64 0) := (blk_cell BK153.out 5).trans rfl; have hcz27_6 : w24.cell? ⟨gb153, 6, none⟩ = some (.int .i64 0) := (blk_cell BK153.out 6).trans rfl; have hcz27_7 : w24.cell? ⟨gb153, 7, none⟩ = some (.int .i64 0) := (blk_cell BK153.out 7).trans rfl; have hcz27_8 : w24.cell? ⟨gb153, 8, none⟩ = some (.string (⟨#[]⟩ : ByteArray)) := (blk_cell BK153.out 8).trans rfl; have hfz27_0 := blk_frozen BK153.out 0; have hfz27_1 := blk_frozen BK153.out 1; have hfz27_2 := blk_frozen BK153.out 2; have hfz27_3 := blk_frozen BK153.out 3; have hfz27_4 := blk_frozen BK153.out 4; have hfz27_5 := blk_frozen BK153.out 5; have hfz27_6 := blk_frozen BK153.out 6; have hfz27_7 := blk_frozen BK153.out 7; have hfz27_8 := blk_frozen BK153.out 8))
                              have n0_ : Aside0 (Kd.R k45 45 (((((((((w24.setCell ⟨gb153, 0, none⟩ (.int .i64 ((rd_T45 x4_1 x27_3).f0))).setCell ⟨gb153, 1, none⟩ (.int .i64 ((rd_T45 x4_1 x27_3).f1))).setCell ⟨gb153, 2, none⟩ (.int .i64 ((rd_T45 x4_1 x27_3).f2))).setCell ⟨gb153, 3, none⟩ (.int .i64 ((rd_T45 x4_1 x27_3).f3))).setCell ⟨gb153, 4, none⟩ (.int .i64 ((rd_T45 x4_1 x27_3).f4))).setCell ⟨gb153, 5, none⟩ (.int .i64 ((rd_T45 x4_1 x27_3).f5))).setCell ⟨gb153, 6, none⟩ (.int .i64 ((rd_T45 x4_1 x27_3).f6))).setCell ⟨gb153, 7, none⟩ (.int .i64 ((rd_T45 x4_1 x27_3).f7))).setCell ⟨gb153, 8, none⟩ (.string ((rd_T45 x4_1 x27_3).f8))) w.heap.size (fun k_ => k_ ≠ gb144 ∧ k_ ≠ gb153) (.slice (some ad152) x4_1.length co14) x4_1) := ⟨by (with_reducible repeat (first | apply Kd.R_alloc | apply Kd.R_drewN | apply Kd.R_drew)); exact Kd.R_mono (Kd.R_far (p := ⟨gb153, 8, none⟩) (Kd.R_far (p := ⟨gb153, 7, none⟩) (Kd.R_far (p := ⟨gb153, 6, none⟩) (Kd.R_far (p := ⟨gb153, 5, none⟩) (Kd.R_far (p := ⟨gb153, 4, none⟩) (Kd.R_far (p := ⟨gb153, 3, none⟩) (Kd.R_far (p := ⟨gb153, 2, none⟩) (Kd.R_far (p := ⟨gb153, 1, none⟩) (Kd.R_far (p := ⟨gb153, 0, none⟩) (Kd.R_mono HO_4.out (fun k_ hk => (⟨hk, hk.2⟩ : _ ∧ k_ ≠ gb153))) (fun _ hk => hk.2) (.int .i64 ((rd_T45 x4_1 x27_3).f0))) (fun _ hk => hk.2) (.int .i64 ((rd_T45 x4_1 x27_3).f1))) (fun _ hk => hk.2) (.int .i64 ((rd_T45 x4_1 x27_3).f2))) (fun _ hk => hk.2) (.int .i64 ((rd_T45 x4_1 x27_3).f3))) (fun _ hk => hk.2) (.int .i64 ((rd_T45 x4_1 x27_3).f4))) (fun _ hk => hk.2) (.int .i64 ((rd_T45 x4_1 x27_3).f5))) (fun _ hk => hk.2) (.int .i64 ((rd_T45 x4_1 x27_3).f6))) (fun _ hk => hk.2) (.int .i64 ((rd_T45 x4_1 x27_3).f7))) (fun _ hk => hk.2) (.string ((rd_T45 x4_1 x27_3).f8))) (fun _ hk => ⟨hk.1.1, hk.1.2⟩)⟩
                              have n1_ : Aside0 (Kd.R k72 72 (((((((((w24.setCell ⟨gb153, 0, none⟩ (.int .i64 ((rd_T45 x4_1 x27_3).f0))).setCell ⟨gb153, 1, none⟩ (.int .i64 ((rd_T45 x4_1 x27_3).f1))).setCell ⟨gb153, 2, none⟩ (.int .i64 ((rd_T45 x4_1 x27_3).f2))).setCell ⟨gb153, 3, none⟩ (.int .i64 ((rd_T45 x4_1 x27_3).f3))).setCell ⟨gb153, 4, none⟩ (.int .i64 ((rd_T45 x4_1 x27_3).f4))).setCell ⟨gb153, 5, none⟩ (.int .i64 ((rd_T45 x4_1 x27_3).f5))).setCell ⟨gb153, 6, none⟩ (.int .i64 ((rd_T45 x4_1 x27_3).f6))).setCell ⟨gb153, 7, none⟩ (.int .i64 ((rd_T45 x4_1 x27_3).f7))).setCell ⟨gb153, 8, none⟩ (.string ((rd_T45 x4_1 x27_3).f8))) w.heap.size (fun k_ => k_ ≠ gb145) u5 x5_1) := ⟨by (with_reducible repeat (first | apply Kd.R_alloc | apply Kd.R_drewN | apply Kd.R_drew)); exact Kd.R_mono (Kd.R_far (p := ⟨gb153, 8, none⟩) (Kd.R_far (p := ⟨gb153, 7, none⟩) (Kd.R_far (p := ⟨gb153, 6, none⟩) (Kd.R_far (p := ⟨gb153, 5, none⟩) (Kd.R_far (p := ⟨gb153, 4, none⟩) (Kd.R_far (p := ⟨gb153, 3, none⟩) (Kd.R_far (p := ⟨gb153, 2, none⟩) (Kd.R_far (p := ⟨gb153, 1, none⟩) (Kd.R_far (p := ⟨gb153, 0, none⟩) (Kd.R_types HO_5.out BK153.out (by decide)) (fun _ hk => hk.2) (.int .i64 ((rd_T45 x4_1 x27_3).f0))) (fun _ hk => hk.2) (.int .i64 ((rd_T45 x4_1 x27_3).f1))) (fun _ hk => hk.2) (.int .i64 ((rd_T45 x4_1 x27_3).f2))) (fun _ hk => hk.2) (.int .i64 ((rd_T45 x4_1 x27_3).f3))) (fun _ hk => hk.2) (.int .i64 ((rd_T45 x4_1 x27_3).f4))) (fun _ hk => hk.2) (.int .i64 ((rd_T45 x4_1 x27_3).f5))) (fun _ hk => hk.2) (.int .i64 ((rd_T45 x4_1 x27_3).f6))) (fun _ hk => hk.2) (.int .i64 ((rd_T45 x4_1 x27_3).f7))) (fun _ hk => hk.2) (.string ((rd_T45 x4_1 x27_3).f8))) (fun _ hk => hk.1)⟩
                              have n2_ : Aside0 (Kd.R k45 45 (((((((((w24.setCell ⟨gb153, 0, none⟩ (.int .i64 ((rd_T45 x4_1 x27_3).f0))).setCell ⟨gb153, 1, none⟩ (.int .i64 ((rd_T45 x4_1 x27_3).f1))).setCell ⟨gb153, 2, none⟩ (.int .i64 ((rd_T45 x4_1 x27_3).f2))).setCell ⟨gb153, 3, none⟩ (.int .i64 ((rd_T45 x4_1 x27_3).f3))).setCell ⟨gb153, 4, none⟩ (.int .i64 ((rd_T45 x4_1 x27_3).f4))).setCell ⟨gb153, 5, none⟩ (.int .i64 ((rd_T45 x4_1 x27_3).f5))).setCell ⟨gb153, 6, none⟩ (.int .i64 ((rd_T45 x4_1 x27_3).f6))).setCell ⟨gb153, 7, none⟩ (.int .i64 ((rd_T45 x4_1 x27_3).f7))).setCell ⟨gb153, 8, none⟩ (.string ((rd_T45 x4_1 x27_3).f8))) w.heap.size (fun k_ => k_ ≠ gb144 ∧ k_ ≠ gb153) (.slice (some ad152) x4_1.length co14) x4_1) := ⟨by (with_reducible repeat (first | apply Kd.R_alloc | apply Kd.R_drewN | apply Kd.R_drew)); exact Kd.R_mono (Kd.R_far (p := ⟨gb153, 8, none⟩) (Kd.R_far (p := ⟨gb153, 7, none⟩) (Kd.R_far (p := ⟨gb153, 6, none⟩) (Kd.R_far (p := ⟨gb153, 5, none⟩) (Kd.R_far (p := ⟨gb153, 4, none⟩) (Kd.R_far (p := ⟨gb153, 3, none⟩) (Kd.R_far (p := ⟨gb153, 2, none⟩) (Kd.R_far (p := ⟨gb153, 1, none⟩) (Kd.R_far (p := ⟨gb153, 0, none⟩) (Kd.R_mono HO_25.out (fun k_ hk => (⟨hk, hk.2⟩ : _ ∧ k_ ≠ gb153))) (fun _ hk => hk.2) (.int .i64 ((rd_T45 x4_1 x27_3).f0))) (fun _ hk => hk.2) (.int .i64 ((rd_T45 x4_1 x27_3).f1))) (fun _ hk => hk.2) (.int .i64 ((rd_T45 x4_1 x27_3).f2))) (fun _ hk => hk.2) (.int .i64 ((rd_T45 x4_1 x27_3).f3))) (fun _ hk => hk.2) (.int .i64 ((rd_T45 x4_1 x27_3).f4))) (fun _ hk => hk.2) (.int .i64 ((rd_T45 x4_1 x27_3).f5))) (fun _ hk => hk.2) (.int .i64 ((rd_T45 x4_1 x27_3).f6))) (fun _ hk => hk.2) (.int .i64 ((rd_T45 x4_1 x27_3).f7))) (fun _ hk => hk.2) (.string ((rd_T45 x4_1 x27_3).f8))) (fun _ hk => ⟨hk.1.1, hk.1.2⟩)⟩
                              have n3_ : Aside0 ((((((((((w24.setCell ⟨gb153, 0, none⟩ (.int .i64 ((rd_T45 x4_1 x27_3).f0))).setCell ⟨gb153, 1, none⟩ (.int .i64 ((rd_T45 x4_1 x27_3).f1))).setCell ⟨gb153, 2, none⟩ (.int .i64 ((rd_T45 x4_1 x27_3).f2))).setCell ⟨gb153, 3, none⟩ (.int .i64 ((rd_T45 x4_1 x27_3).f3))).setCell ⟨gb153, 4, none⟩ (.int .i64 ((rd_T45 x4_1 x27_3).f4))).setCell ⟨gb153, 5, none⟩ (.int .i64 ((rd_T45 x4_1 x27_3).f5))).setCell ⟨gb153, 6, none⟩ (.int .i64 ((rd_T45 x4_1 x27_3).f6))).setCell ⟨gb153, 7, none⟩ (.int .i64 ((rd_T45 x4_1 x27_3).f7))).setCell ⟨gb153, 8, none⟩ (.string ((rd_T45 x4_1 x27_3).f8))).heap[gb144]? = some (.cells #[.int .i64 ((rd_T45 l0 x13_1).f0), .int .i64 ((rd_T45 l0 x13_1).f1), .int .i64 ((rd_T45 l0 x13_1).f2), .int .i64 ((rd_T45 l0 x13_1).f3), .int .i64 ((rd_T45 l0 x13_1).f4), .int .i64 ((rd_T45 l0 x13_1).f5), .int .i64 ((rd_T45 l0 x13_1).f6), .int .i64 ((rd_T45 l0 x13_1).f7), .string ((rd_T45 l0 x13_1).f8)] 45 (0, 0))) := ⟨by (with_reducible repeat (first | refine blk_drewN ?_ _ | refine blk_drew ?_ | refine blk_alloc ?_ _)); refine blk_far ?_ NB144_153.out _; (with_reducible repeat (first | refine blk_drewN ?_ _ | refine blk_drew ?_ | refine blk_alloc ?_ _)); refine blk_far ?_ NB144_153.out _; (with_reducible repeat (first | refine blk_drewN ?_ _ | refine blk_drew ?_ | refine blk_alloc ?_ _)); refine blk_far ?_ NB144_153.out _; (with_reducible repeat (first | refine blk_drewN ?_ _ | refine blk_drew ?_ | refine blk_alloc ?_ _)); refine blk_far ?_ NB144_153.out _; (with_reducible repeat (first | refine blk_drewN ?_ _ | refine blk_drew ?_ | refine blk_alloc ?_ _)); refine blk_far ?_ NB144_153.out _; (with_reducible repeat (first | refine blk_drewN ?_ _ | refine blk_drew ?_ | refine blk_alloc ?_ _)); refine blk_far ?_ NB144_153.out _; (with_reducible repeat (first | refine blk_drewN ?_ _ | refine blk_drew ?_ | refine blk_alloc ?_ _)); refine blk_far ?_ NB144_153.out _; (with_reducible repeat (first | refine blk_drewN ?_ _ | refine blk_drew ?_ | refine blk_alloc ?_ _)); refine blk_far ?_ NB144_153.out _; (with_reducible repeat (first | refine blk_drewN ?_ _ | refine blk_drew ?_ | refine blk_alloc ?_ _)); refine blk_far ?_ NB144_153.out _; (with_reducible repeat (first | refine blk_drewN ?_ _ | refine blk_drew ?_ | refine blk_alloc ?_ _)); exact BK144.out⟩
                              have n4_ : Aside0 ((((((((((w24.setCell ⟨gb153, 0, none⟩ (.int .i64 ((rd_T45 x4_1 x27_3).f0))).setCell ⟨gb153, 1, none⟩ (.int .i64 ((rd_T45 x4_1 x27_3).f1))).setCell ⟨gb153, 2, none⟩ (.int .i64 ((rd_T45 x4_1 x27_3).f2))).setCell ⟨gb153, 3, none⟩ (.int .i64 ((rd_T45 x4_1 x27_3).f3))).setCell ⟨gb153, 4, none⟩ (.int .i64 ((rd_T45 x4_1 x27_3).f4))).setCell ⟨gb153, 5, none⟩ (.int .i64 ((rd_T45 x4_1 x27_3).f5))).setCell ⟨gb153, 6, none⟩ (.int .i64 ((rd_T45 x4_1 x27_3).f6))).setCell ⟨gb153, 7, none⟩ (.int .i64 ((rd_T45 x4_1 x27_3).f7))).setCell ⟨gb153, 8, none⟩ (.string ((rd_T45 x4_1 x27_3).f8))).heap[gb145]? = some (.cells #[.int .i64 ((rd_T45 l0 x13_1).f0), .int .i64 ((rd_T45 l0 x13_1).f1), .int .i64 ((rd_T45 l0 x13_1).f2), .int .i64 ((rd_T45 l0 x13_1).f3), .int .i64 ((rd_T45 l0 x13_1).f4), .int .i64 ((rd_T45 l0 x13_1).f5), .int .i64 ((rd_T45 l0 x13_1).f6), .int .i64 ((rd_T45 l0 x13_1).f7), .string ((rd_T45 l0 x13_1).f8), .int .i64 x146009_3, .int .i64 x146010_3, .int .i64 x146011_3, .int .i64 x146012_3, .int .i64 x146013_3] 72 (0, 0))) := ⟨by (with_reducible repeat (first | refine blk_drewN ?_ _ | refine blk_drew ?_ | refine blk_alloc ?_ _)); refine blk_far ?_ NB145_153.out _; (with_reducible repeat (first | refine blk_drewN ?_ _ | refine blk_drew ?_ | refine blk_alloc ?_ _)); refine blk_far ?_ NB145_153.out _; (with_reducible repeat (first | refine blk_drewN ?_ _ | refine blk_drew ?_ | refine blk_alloc ?_ _)); refine blk_far ?_ NB145_153.out _; (with_reducible repeat (first | refine blk_drewN ?_ _ | refine blk_drew ?_ | refine blk_alloc ?_ _)); refine blk_far ?_ NB145_153.out _; (with_reducible repeat (first | refine blk_drewN ?_ _ | refine blk_drew ?_ | refine blk_alloc ?_ _)); refine blk_far ?_ NB145_153.out _; (with_reducible repeat (first | refine blk_drewN ?_ _ | refine blk_drew ?_ | refine blk_alloc ?_ _)); refine blk_far ?_ NB145_153.out _; (with_reducible repeat (first | refine blk_drewN ?_ _ | refine blk_drew ?_ | refine blk_alloc ?_ _)); refine blk_far ?_ NB145_153.out _; (with_reducible repeat (first | refine blk_drewN ?_ _ | refine blk_drew ?_ | refine blk_alloc ?_ _)); refine blk_far ?_ NB145_153.out _; (with_reducible repeat (first | refine blk_drewN ?_ _ | refine blk_drew ?_ | refine blk_alloc ?_ _)); refine blk_far ?_ NB145_153.out _; (with_reducible repeat (first | refine blk_drewN ?_ _ | refine blk_drew ?_ | refine blk_alloc ?_ _)); exact BK145.out⟩
                              have n5_ : Aside0 ((((((((((w24.setCell ⟨gb153, 0, none⟩ (.int .i64 ((rd_T45 x4_1 x27_3).f0))).setCell ⟨gb153, 1, none⟩ (.int .i64 ((rd_T45 x4_1 x27_3).f1))).setCell ⟨gb153, 2, none⟩ (.int .i64 ((rd_T45 x4_1 x27_3).f2))).setCell ⟨gb153, 3, none⟩ (.int .i64 ((rd_T45 x4_1 x27_3).f3))).setCell ⟨gb153, 4, none⟩ (.int .i64 ((rd_T45 x4_1 x27_3).f4))).setCell ⟨gb153, 5, none⟩ (.int .i64 ((rd_T45 x4_1 x27_3).f5))).setCell ⟨gb153, 6, none⟩ (.int .i64 ((rd_T45 x4_1 x27_3).f6))).setCell ⟨gb153, 7, none⟩ (.int .i64 ((rd_T45 x4_1 x27_3).f7))).setCell ⟨gb153, 8, none⟩ (.string ((rd_T45 x4_1 x27_3).f8))).heap[gb153]? = some (.cells #[.int .i64 ((rd_T45 x4_1 x27_3).f0), .int .i64 ((rd_T45 x4_1 x27_3).f1), .int .i64 ((rd_T45 x4_1 x27_3).f2), .int .i64 ((rd_T45 x4_1 x27_3).f3), .int .i64 ((rd_T45 x4_1 x27_3).f4), .int .i64 ((rd_T45 x4_1 x27_3).f5), .int .i64 ((rd_T45 x4_1 x27_3).f6), .int .i64 ((rd_T45 x4_1 x27_3).f7), .string ((rd_T45 x4_1 x27_3).f8)] 45 (0, 0))) := ⟨by (with_reducible repeat (first | refine blk_drewN ?_ _ | refine blk_drew ?_ | refine blk_alloc ?_ _)); refine blk_put (cs := #[.int .i64 ((rd_T45 x4_1 x27_3).f0), .int .i64 ((rd_T45 x4_1 x27_3).f1), .int .i64 ((rd_T45 x4_1 x27_3).f2), .int .i64 ((rd_T45 x4_1 x27_3).f3), .int .i64 ((rd_T45 x4_1 x27_3).f4), .int .i64 ((rd_T45 x4_1 x27_3).f5), .int .i64 ((rd_T45 x4_1 x27_3).f6), .int .i64 ((rd_T45 x4_1 x27_3).f7), .string (⟨#[]⟩ : ByteArray)]) ?_ 8 _ rfl; (with_reducible repeat (first | refine blk_drewN ?_ _ | refine blk_drew ?_ | refine blk_alloc ?_ _)); refine blk_put (cs := #[.int .i64 ((rd_T45 x4_1 x27_3).f0), .int .i64 ((rd_T45 x4_1 x27_3).f1), .int .i64 ((rd_T45 x4_1 x27_3).f2), .int .i64 ((rd_T45 x4_1 x27_3).f3), .int .i64 ((rd_T45 x4_1 x27_3).f4), .int .i64 ((rd_T45 x4_1 x27_3).f5), .int .i64 ((rd_T45 x4_1 x27_3).f6), .int .i64 0, .string (⟨#[]⟩ : ByteArray)]) ?_ 7 _ rfl; (with_reducible repeat (first | refine blk_drewN ?_ _ | refine blk_drew ?_ | refine blk_alloc ?_ _)); refine blk_put (cs := #[.int .i64 ((rd_T45 x4_1 x27_3).f0), .int .i64 ((rd_T45 x4_1 x27_3).f1), .int .i64 ((rd_T45 x4_1 x27_3).f2), .int .i64 ((rd_T45 x4_1 x27_3).f3), .int .i64 ((rd_T45 x4_1 x27_3).f4), .int .i64 ((rd_T45 x4_1 x27_3).f5), .int .i64 0, .int .i64 0, .string (⟨#[]⟩ : ByteArray)]) ?_ 6 _ rfl; (with_reducible repeat (first | refine blk_drewN ?_ _ | refine blk_drew ?_ | refine blk_alloc ?_ _)); refine blk_put (cs := #[.int .i64 ((rd_T45 x4_1 x27_3).f0), .int .i64 ((rd_T45 x4_1 x27_3).f1), .int .i64 ((rd_T45 x4_1 x27_3).f2), .int .i64 ((rd_T45 x4_1 x27_3).f3), .int .i64 ((rd_T45 x4_1 x27_3).f4), .int .i64 0, .int .i64 0, .int .i64 0, .string (⟨#[]⟩ : ByteArray)]) ?_ 5 _ rfl; (with_reducible repeat (first | refine blk_drewN ?_ _ | refine blk_drew ?_ | refine blk_alloc ?_ _)); refine blk_put (cs := #[.int .i64 ((rd_T45 x4_1 x27_3).f0), .int .i64 ((rd_T45 x4_1 x27_3).f1), .int .i64 ((rd_T45 x4_1 x27_3).f2), .int .i64 ((rd_T45 x4_1 x27_3).f3), .int .i64 0, .int .i64 0, .int .i64 0, .int .i64 0, .string (⟨#[]⟩ : ByteArray)]) ?_ 4 _ rfl; (with_reducible repeat (first | refine blk_drewN ?_ _ | refine blk_drew ?_ | refine blk_alloc ?_ _)); refine blk_put (cs := #[.int .i64 ((rd_T45 x4_1 x27_3).f0), .int .i64 ((rd_T45 x4_1 x27_3).f1), .int .i64 ((rd_T45 x4_1 x27_3).f2), .int .i64 0, .int .i64 0, .int .i64 0, .int .i64 0, .int .i64 0, .string (⟨#[]⟩ : ByteArray)]) ?_ 3 _ rfl; (with_reducible repeat (first | refine blk_drewN ?_ _ | refine blk_drew ?_ | refine blk_alloc ?_ _)); refine blk_put (cs := #[.int .i64 ((rd_T45 x4_1 x27_3).f0), .int .i64 ((rd_T45 x4_1 x27_3).f1), .int .i64 0, .int .i64 0, .int .i64 0, .int .i64 0, .int .i64 0, .int .i64 0, .string (⟨#[]⟩ : ByteArray)]) ?_ 2 _ rfl; (with_reducible repeat (first | refine blk_drewN ?_ _ | refine blk_drew ?_ | refine blk_alloc ?_ _)); refine blk_put (cs := #[.int .i64 ((rd_T45 x4_1 x27_3).f0), .int .i64 0, .int .i64 0, .int .i64 0, .int .i64 0, .int .i64 0, .int .i64 0, .int .i64 0, .string (⟨#[]⟩ : ByteArray)]) ?_ 1 _ rfl; (with_reducible repeat (first | refine blk_drewN ?_ _ | refine blk_drew ?_ | refine blk_alloc ?_ _)); refine blk_put (cs := #[.int .i64 0, .int .i64 0, .int .i64 0, .int .i64 0, .int .i64 0, .int .i64 0, .int .i64 0, .int .i64 0, .string (⟨#[]⟩ : ByteArray)]) ?_ 0 _ rfl; (with_reducible repeat (first | refine blk_drewN ?_ _ | refine blk_drew ?_ | refine blk_alloc ?_ _)); exact BK153.out⟩
                              have n6_ : Aside0 (Below w.heap.size w (((((((((w24.setCell ⟨gb153, 0, none⟩ (.int .i64 ((rd_T45 x4_1 x27_3).f0))).setCell ⟨gb153, 1, none⟩ (.int .i64 ((rd_T45 x4_1 x27_3).f1))).setCell ⟨gb153, 2, none⟩ (.int .i64 ((rd_T45 x4_1 x27_3).f2))).setCell ⟨gb153, 3, none⟩ (.int .i64 ((rd_T45 x4_1 x27_3).f3))).setCell ⟨gb153, 4, none⟩ (.int .i64 ((rd_T45 x4_1 x27_3).f4))).setCell ⟨gb153, 5, none⟩ (.int .i64 ((rd_T45 x4_1 x27_3).f5))).setCell ⟨gb153, 6, none⟩ (.int .i64 ((rd_T45 x4_1 x27_3).f6))).setCell ⟨gb153, 7, none⟩ (.int .i64 ((rd_T45 x4_1 x27_3).f7))).setCell ⟨gb153, 8, none⟩ (.string ((rd_T45 x4_1 x27_3).f8)))) := ⟨by repeat (first | (with_reducible first | exact HB.out | apply below_alloc | apply pw_below_drewN | apply below_drew1 | refine below_set ?_ GE144.out | refine below_set ?_ GE145.out | refine below_set ?_ GE153.out) | exact HB.out)⟩
                              (try clear HO_4)
                              (try clear HO_5)
                              (try clear HO_25)
                              (try clear BK144)
                              (try clear BK145)
                              (try clear BK153)
                              (try clear HB)
                              generalize (((((((((w24.setCell ⟨gb153, 0, none⟩ (.int .i64 ((rd_T45 x4_1 x27_3).f0))).setCell ⟨gb153, 1, none⟩ (.int .i64 ((rd_T45 x4_1 x27_3).f1))).setCell ⟨gb153, 2, none⟩ (.int .i64 ((rd_T45 x4_1 x27_3).f2))).setCell ⟨gb153, 3, none⟩ (.int .i64 ((rd_T45 x4_1 x27_3).f3))).setCell ⟨gb153, 4, none⟩ (.int .i64 ((rd_T45 x4_1 x27_3).f4))).setCell ⟨gb153, 5, none⟩ (.int .i64 ((rd_T45 x4_1 x27_3).f5))).setCell ⟨gb153, 6, none⟩ (.int .i64 ((rd_T45 x4_1 x27_3).f6))).setCell ⟨gb153, 7, none⟩ (.int .i64 ((rd_T45 x4_1 x27_3).f7))).setCell ⟨gb153, 8, none⟩ (.string ((rd_T45 x4_1 x27_3).f8))) = w28 at n0_ n1_ n2_ n3_ n4_ n5_ n6_ ⊢
                              have HO_4 := n0_
                              have HO_5 := n1_
                              have HO_25 := n2_
                              have BK144 := n3_
                              have BK145 := n4_
                              have BK153 := n5_
                              have HB := n6_
                              clear n0_ n1_ n2_ n3_ n4_ n5_ n6_
                              have n0_ := Aside0.mk (Kd.R_drew HO_4.out)
                              have n1_ := Aside0.mk (Kd.R_drew HO_5.out)
                              have n2_ := Aside0.mk (Kd.R_drew HO_25.out)
                              have n3_ := Aside0.mk (blk_drew BK144.out)
                              have n4_ := Aside0.mk (blk_drew BK145.out)
                              have n5_ := Aside0.mk (blk_drew BK153.out)
                              have n6_ := Aside0.mk (below_drew1 HB.out)
                              clear HO_4
                              clear HO_5
                              clear HO_25
                              clear BK144
                              clear BK145
                              clear BK153
                              clear HB
                              have HO_4 := n0_
                              have HO_5 := n1_
                              have HO_25 := n2_
                              have BK144 := n3_
                              have BK145 := n4_
                              have BK153 := n5_
                              have HB := n6_
                              clear n0_ n1_ n2_ n3_ n4_ n5_ n6_
                              refine start_ (n := 18) (S := fun w' => w'.cell? ⟨gb145, 0, none⟩ = some (.int .i64 ((rd_T45 l0 x13_1).f0)) ∧ w'.cell? ⟨gb145, 1, none⟩ = some (.int .i64 ((rd_T45 l0 x13_1).f1)) ∧ w'.cell? ⟨gb145, 2, none⟩ = some (.int .i64 ((rd_T45 l0 x13_1).f2)) ∧ w'.cell? ⟨gb145, 3, none⟩ = some (.int .i64 ((rd_T45 l0 x13_1).f3)) ∧ w'.cell? ⟨gb145, 4, none⟩ = some (.int .i64 ((rd_T45 l0 x13_1).f4)) ∧ w'.cell? ⟨gb145, 5, none⟩ = some (.int .i64 ((rd_T45 l0 x13_1).f5)) ∧ w'.cell? ⟨gb145, 6, none⟩ = some (.int .i64 ((rd_T45 l0 x13_1).f6)) ∧ w'.cell? ⟨gb145, 7, none⟩ = some (.int .i64 ((rd_T45 l0 x13_1).f7)) ∧ w'.cell? ⟨gb145, 8, none⟩ = some (.string ((rd_T45 l0 x13_1).f8)) ∧ w'.cell? ⟨gb145, 9, none⟩ = some (.int .i64 x146009_3) ∧ w'.cell? ⟨gb145, 10, none⟩ = some (.int .i64 x146010_3) ∧ w'.cell? ⟨gb145, 11, none⟩ = some (.int .i64 x146011_3) ∧ w'.cell? ⟨gb145, 12, none⟩ = some (.int .i64 x146012_3) ∧ w'.cell? ⟨gb145, 13, none⟩ = some (.int .i64 x146013_3) ∧ w'.cell? ⟨gb153, 0, none⟩ = some (.int .i64 ((rd_T45 x4_1 x27_3).f0)) ∧ w'.cell? ⟨gb153, 1, none⟩ = some (.int .i64 ((rd_T45 x4_1 x27_3).f1)) ∧ w'.cell? ⟨gb153, 2, none⟩ = some (.int .i64 ((rd_T45 x4_1 x27_3).f2)) ∧ w'.cell? ⟨gb153, 3, none⟩ = some (.int .i64 ((rd_T45 x4_1 x27_3).f3)) ∧ w'.cell? ⟨gb153, 4, none⟩ = some (.int .i64 ((rd_T45 x4_1 x27_3).f4)) ∧ w'.cell? ⟨gb153, 5, none⟩ = some (.int .i64 ((rd_T45 x4_1 x27_3).f5)) ∧ w'.cell? ⟨gb153, 6, none⟩ = some (.int .i64 ((rd_T45 x4_1 x27_3).f6)) ∧ w'.cell? ⟨gb153, 7, none⟩ = some (.int .i64 ((rd_T45 x4_1 x27_3).f7)) ∧ w'.cell? ⟨gb153, 8, none⟩ = some (.string ((rd_T45 x4_1 x27_3).f8))) (ds := [17]) #[false, false, false, false, false, false, false, false, false, false, false, false, false, false, false, false, false, false] (by kernel_rfl) rfl rfl ⟨(blk_cell BK145.out 0).trans rfl, (blk_cell BK145.out 1).trans rfl, (blk_cell BK145.out 2).trans rfl, (blk_cell BK145.out 3).trans rfl, (blk_cell BK145.out 4).trans rfl, (blk_cell BK145.out 5).trans rfl, (blk_cell BK145.out 6).trans rfl, (blk_cell BK145.out 7).trans rfl, (blk_cell BK145.out 8).trans rfl, (blk_cell BK145.out 9).trans rfl, (blk_cell BK145.out 10).trans rfl, (blk_cell BK145.out 11).trans rfl, (blk_cell BK145.out 12).trans rfl, (blk_cell BK145.out 13).trans rfl, (blk_cell BK153.out 0).trans rfl, (blk_cell BK153.out 1).trans rfl, (blk_cell BK153.out 2).trans rfl, (blk_cell BK153.out 3).trans rfl, (blk_cell BK153.out 4).trans rfl, (blk_cell BK153.out 5).trans rfl, (blk_cell BK153.out 6).trans rfl, (blk_cell BK153.out 7).trans rfl, (blk_cell BK153.out 8).trans rfl⟩ (fun hHeld => ?_); refine with_tabW clerestoryref3_Flat.tab15 clerestoryref3_Flat.bits15 (fun HT_ HW_ => ?_)
                              generalize w28.drew = w29 at HO_4 HO_5 HO_25 BK144 BK145 BK153 HB hHeld ⊢
                              refine pure_ (i := 0) (N := some 34) (v := ?_) (a' := ?_) #[true, false, false, false, false, false, false, false, false, false, false, false, false, false, false, false, false, false] rfl rfl (any_of HT_.out (by kernel_rfl)) (fun _ _ _ h => h) (Or.inl ⟨by rfl, ?_⟩) ?_ ?_
                              rotate_left
                              · intro w'
                                go_simp
                                with_reducible rfl
                              rotate_left
                              · simp only [Act.put, List.setIfInBounds_toArray, List.set_cons_zero, List.set_cons_succ, i64_w, i32_w]
                                rfl
                              refine pure_ (i := 2) (N := some 36) (v := ?_) (a' := ?_) #[true, false, true, false, false, false, false, false, false, false, false, false, false, false, false, false, false, false] rfl rfl (any_of HT_.out (by kernel_rfl)) (fun _ _ _ h => h) (Or.inl ⟨by rfl, ?_⟩) ?_ ?_
                              rotate_left
                              · intro w'
                                go_simp
                                with_reducible rfl
                              rotate_left
                              · simp only [Act.put, List.setIfInBounds_toArray, List.set_cons_zero, List.set_cons_succ, i64_w, i32_w]
                                rfl
                              refine pure_ (i := 5) (N := some 39) (v := ?_) (a' := ?_) #[true, false, true, false, false, true, false, false, false, false, false, false, false, false, false, false, false, false] rfl rfl (any_of HT_.out (by kernel_rfl)) (fun _ _ _ h => h) (Or.inl ⟨by rfl, ?_⟩) ?_ ?_
                              rotate_left
                              · intro w'
                                go_simp
                                with_reducible rfl
                              rotate_left
                              · simp only [Act.put, List.setIfInBounds_toArray, List.set_cons_zero, List.set_cons_succ, i64_w, i32_w]
                                rfl
                              refine pure_ (i := 8) (N := some 42) (v := ?_) (a' := ?_) #[true, false, true, false, false, true, false, false, true, false, false, false, false, false, false, false, false, false] rfl rfl (any_of HT_.out (by kernel_rfl)) (fun _ _ _ h => h) (Or.inl ⟨by rfl, ?_⟩) ?_ ?_
                              rotate_left
                              · intro w'
                                go_simp
                                with_reducible rfl
                              rotate_left
                              · simp only [Act.put, List.setIfInBounds_toArray, List.set_cons_zero, List.set_cons_succ, i64_w, i32_w]
                                rfl
                              refine pure_ (i := 11) (N := some 45) (v := ?_) (a' := ?_) #[true, false, true, false, false, true, false, false, true, false, false, true, false, false, false, false, false, false] rfl rfl (any_of HT_.out (by kernel_rfl)) (fun _ _ _ h => h) (Or.inl ⟨by rfl, ?_⟩) ?_ ?_
                              rotate_left
                              · intro w'
                                go_simp
                                with_reducible rfl
                              rotate_left
                              · simp only [Act.put, List.setIfInBounds_toArray, List.set_cons_zero, List.set_cons_succ, i64_w, i32_w]
                                rfl
                              refine take_ (i := 1) (N := some 35) (v := ?_) (a' := ?_) #[true, true, true, false, false, true, false, false, true, false, false, true, false, false, false, false, false, false] rfl rfl (take_ofW HT_.out HW_.out (by kernel_rfl)) (fun _ _ _ h => h) (Or.inl ⟨by rfl, ?_⟩) hHeld ?_ ?_
                              rotate_left
                              · rintro w' ⟨s0, s1, s2, s3, s4, s5, s6, s7, s8, s9, s10, s11, s12, s13, s14, s15, s16, s17, s18, s19, s20, s21, s22⟩
                                go_simp
                                with_reducible rfl
                              rotate_left
                              · simp only [Act.put, List.setIfInBounds_toArray, List.set_cons_zero, List.set_cons_succ, i64_w, i32_w]
                                rfl
                              refine take_ (i := 3) (N := some 37) (v := ?_) (a' := ?_) #[true, true, true, true, false, true, false, false, true, false, false, true, false, false, false, false, false, false] rfl rfl (take_ofW HT_.out HW_.out (by kernel_rfl)) (fun _ _ _ h => h) (Or.inl ⟨by rfl, ?_⟩) hHeld ?_ ?_
                              rotate_left
                              · rintro w' ⟨s0, s1, s2, s3, s4, s5, s6, s7, s8, s9, s10, s11, s12, s13, s14, s15, s16, s17, s18, s19, s20, s21, s22⟩
                                go_simp
                                with_reducible rfl
                              rotate_left
                              · simp only [Act.put, List.setIfInBounds_toArray, List.set_cons_zero, List.set_cons_succ, i64_w, i32_w]
                                rfl
                              refine take_ (i := 6) (N := some 40) (v := ?_) (a' := ?_) #[true, true, true, true, false, true, true, false, true, false, false, true, false, false, false, false, false, false] rfl rfl (take_ofW HT_.out HW_.out (by kernel_rfl)) (fun _ _ _ h => h) (Or.inl ⟨by rfl, ?_⟩) hHeld ?_ ?_
                              rotate_left
                              · rintro w' ⟨s0, s1, s2, s3, s4, s5, s6, s7, s8, s9, s10, s11, s12, s13, s14, s15, s16, s17, s18, s19, s20, s21, s22⟩
                                go_simp
                                with_reducible rfl
                              rotate_left
                              · simp only [Act.put, List.setIfInBounds_toArray, List.set_cons_zero, List.set_cons_succ, i64_w, i32_w]
                                rfl
                              refine take_ (i := 9) (N := some 43) (v := ?_) (a' := ?_) #[true, true, true, true, false, true, true, false, true, true, false, true, false, false, false, false, false, false] rfl rfl (take_ofW HT_.out HW_.out (by kernel_rfl)) (fun _ _ _ h => h) (Or.inl ⟨by rfl, ?_⟩) hHeld ?_ ?_
                              rotate_left
                              · rintro w' ⟨s0, s1, s2, s3, s4, s5, s6, s7, s8, s9, s10, s11, s12, s13, s14, s15, s16, s17, s18, s19, s20, s21, s22⟩
                                go_simp
                                with_reducible rfl
                              rotate_left
                              · simp only [Act.put, List.setIfInBounds_toArray, List.set_cons_zero, List.set_cons_succ, i64_w, i32_w]
                                rfl
                              refine take_ (i := 12) (N := some 46) (v := ?_) (a' := ?_) #[true, true, true, true, false, true, true, false, true, true, false, true, true, false, false, false, false, false] rfl rfl (take_ofW HT_.out HW_.out (by kernel_rfl)) (fun _ _ _ h => h) (Or.inl ⟨by rfl, ?_⟩) hHeld ?_ ?_
                              rotate_left
                              · rintro w' ⟨s0, s1, s2, s3, s4, s5, s6, s7, s8, s9, s10, s11, s12, s13, s14, s15, s16, s17, s18, s19, s20, s21, s22⟩
                                go_simp
                                with_reducible rfl
                              rotate_left
                              · simp only [Act.put, List.setIfInBounds_toArray, List.set_cons_zero, List.set_cons_succ, i64_w, i32_w]
                                rfl
                              refine one_ (i := 4) (N := some 38) #[true, true, true, true, true, true, true, false, true, true, false, true, true, false, false, false, false, false] rfl rfl (one_of HT_.out (by kernel_rfl)) (by decide) (fun K hK => ?_)
                              refine goes_ Try.func21 (by kernel_rfl) rfl #[.int .i64 ((rd_T45 x4_1 x27_3).f2)] (by rfl) rfl rfl (by (try simp only [List.map_toArray, List.map_cons, List.map_nil]); first | done | rfl | (simp only [List.length_drop, List.length_take]; rfl)) ?_
                              with_reducible refine (clerestoryref3_Cut.calls ((rd_T45 x4_1 x27_3).f2) t154 _ A19.out).mono ?_
                              rintro e w' ⟨rfl, ⟨nd, rfl⟩⟩
                              refine ⟨_, rfl, ?_⟩
                              refine hK.out _ _ ⟨(blk_cell BK145.out 0).trans rfl, (blk_cell BK145.out 1).trans rfl, (blk_cell BK145.out 2).trans rfl, (blk_cell BK145.out 3).trans rfl, (blk_cell BK145.out 4).trans rfl, (blk_cell BK145.out 5).trans rfl, (blk_cell BK145.out 6).trans rfl, (blk_cell BK145.out 7).trans rfl, (blk_cell BK145.out 8).trans rfl, (blk_cell BK145.out 9).trans rfl, (blk_cell BK145.out 10).trans rfl, (blk_cell BK145.out 11).trans rfl, (blk_cell BK145.out 12).trans rfl, (blk_cell BK145.out 13).trans rfl, (blk_cell BK153.out 0).trans rfl, (blk_cell BK153.out 1).trans rfl, (blk_cell BK153.out 2).trans rfl, (blk_cell BK153.out 3).trans rfl, (blk_cell BK153.out 4).trans rfl, (blk_cell BK153.out 5).trans rfl, (blk_cell BK153.out 6).trans rfl, (blk_cell BK153.out 7).trans rfl, (blk_cell BK153.out 8).trans rfl⟩ (fun hHeld => ?_)
                              clear hK K
                              refine norm_ (a' := ?_) ?_ ?_
                              rotate_left
                              · show Act.put _ (some 38) _ = _
                                simp only [Act.put, List.setIfInBounds_toArray, List.set_cons_zero, List.set_cons_succ, i64_w, i32_w]
                                rfl
                              refine one_ (i := 7) (N := some 41) #[true, true, true, true, true, true, true, true, true, true, false, true, true, false, false, false, false, false] rfl rfl (one_of HT_.out (by kernel_rfl)) (by decide) (fun K hK => ?_)
                              refine goes_ Try.func21 (by kernel_rfl) rfl #[.int .i64 ((rd_T45 x4_1 x27_3).f3)] (by rfl) rfl rfl (by (try simp only [List.map_toArray, List.map_cons, List.map_nil]); first | done | rfl | (simp only [List.length_drop, List.length_take]; rfl)) ?_
                              with_reducible refine (clerestoryref3_Cut.calls ((rd_T45 x4_1 x27_3).f3) t155 _ A20.out).mono ?_
                              rintro e w' ⟨rfl, ⟨nd, rfl⟩⟩
                              refine ⟨_, rfl, ?_⟩
                              refine hK.out _ _ ⟨(blk_cell BK145.out 0).trans rfl, (blk_cell BK145.out 1).trans rfl, (blk_cell BK145.out 2).trans rfl, (blk_cell BK145.out 3).trans rfl, (blk_cell BK145.out 4).trans rfl, (blk_cell BK145.out 5).trans rfl, (blk_cell BK145.out 6).trans rfl, (blk_cell BK145.out 7).trans rfl, (blk_cell BK145.out 8).trans rfl, (blk_cell BK145.out 9).trans rfl, (blk_cell BK145.out 10).trans rfl, (blk_cell BK145.out 11).trans rfl, (blk_cell BK145.out 12).trans rfl, (blk_cell BK145.out 13).trans rfl, (blk_cell BK153.out 0).trans rfl, (blk_cell BK153.out 1).trans rfl, (blk_cell BK153.out 2).trans rfl, (blk_cell BK153.out 3).trans rfl, (blk_cell BK153.out 4).trans rfl, (blk_cell BK153.out 5).trans rfl, (blk_cell BK153.out 6).trans rfl, (blk_cell BK153.out 7).trans rfl, (blk_cell BK153.out 8).trans rfl⟩ (fun hHeld => ?_)
                              clear hK K
                              refine norm_ (a' := ?_) ?_ ?_
                              rotate_left
                              · show Act.put _ (some 41) _ = _
                                simp only [Act.put, List.setIfInBounds_toArray, List.set_cons_zero, List.set_cons_succ, i64_w, i32_w]
                                rfl
                              refine one_ (i := 10) (N := some 44) #[true, true, true, true, true, true, true, true, true, true, true, true, true, false, false, false, false, false] rfl rfl (one_of HT_.out (by kernel_rfl)) (by decide) (fun K hK => ?_)
                              refine goes_ Try.func21 (by kernel_rfl) rfl #[.int .i64 ((rd_T45 x4_1 x27_3).f4)] (by rfl) rfl rfl (by (try simp only [List.map_toArray, List.map_cons, List.map_nil]); first | done | rfl | (simp only [List.length_drop, List.length_take]; rfl)) ?_
                              with_reducible refine (clerestoryref3_Cut.calls ((rd_T45 x4_1 x27_3).f4) t156 _ A21.out).mono ?_
                              rintro e w' ⟨rfl, ⟨nd, rfl⟩⟩
                              refine ⟨_, rfl, ?_⟩
                              refine hK.out _ _ ⟨(blk_cell BK145.out 0).trans rfl, (blk_cell BK145.out 1).trans rfl, (blk_cell BK145.out 2).trans rfl, (blk_cell BK145.out 3).trans rfl, (blk_cell BK145.out 4).trans rfl, (blk_cell BK145.out 5).trans rfl, (blk_cell BK145.out 6).trans rfl, (blk_cell BK145.out 7).trans rfl, (blk_cell BK145.out 8).trans rfl, (blk_cell BK145.out 9).trans rfl, (blk_cell BK145.out 10).trans rfl, (blk_cell BK145.out 11).trans rfl, (blk_cell BK145.out 12).trans rfl, (blk_cell BK145.out 13).trans rfl, (blk_cell BK153.out 0).trans rfl, (blk_cell BK153.out 1).trans rfl, (blk_cell BK153.out 2).trans rfl, (blk_cell BK153.out 3).trans rfl, (blk_cell BK153.out 4).trans rfl, (blk_cell BK153.out 5).trans rfl, (blk_cell BK153.out 6).trans rfl, (blk_cell BK153.out 7).trans rfl, (blk_cell BK153.out 8).trans rfl⟩ (fun hHeld => ?_)
                              clear hK K
                              refine norm_ (a' := ?_) ?_ ?_
                              rotate_left
                              · show Act.put _ (some 44) _ = _
                                simp only [Act.put, List.setIfInBounds_toArray, List.set_cons_zero, List.set_cons_succ, i64_w, i32_w]
                                rfl
                              refine one_ (i := 13) (N := some 47) #[true, true, true, true, true, true, true, true, true, true, true, true, true, true, false, false, false, false] rfl rfl (one_of HT_.out (by kernel_rfl)) (by decide) (fun K hK => ?_)
                              refine goes_ Try.func21 (by kernel_rfl) rfl #[.int .i64 ((rd_T45 x4_1 x27_3).f5)] (by rfl) rfl rfl (by (try simp only [List.map_toArray, List.map_cons, List.map_nil]); first | done | rfl | (simp only [List.length_drop, List.length_take]; rfl)) ?_
                              with_reducible refine (clerestoryref3_Cut.calls ((rd_T45 x4_1 x27_3).f5) t157 _ A22.out).mono ?_
                              rintro e w' ⟨rfl, ⟨nd, rfl⟩⟩
                              refine ⟨_, rfl, ?_⟩
                              refine hK.out _ _ ⟨(blk_cell BK145.out 0).trans rfl, (blk_cell BK145.out 1).trans rfl, (blk_cell BK145.out 2).trans rfl, (blk_cell BK145.out 3).trans rfl, (blk_cell BK145.out 4).trans rfl, (blk_cell BK145.out 5).trans rfl, (blk_cell BK145.out 6).trans rfl, (blk_cell BK145.out 7).trans rfl, (blk_cell BK145.out 8).trans rfl, (blk_cell BK145.out 9).trans rfl, (blk_cell BK145.out 10).trans rfl, (blk_cell BK145.out 11).trans rfl, (blk_cell BK145.out 12).trans rfl, (blk_cell BK145.out 13).trans rfl, (blk_cell BK153.out 0).trans rfl, (blk_cell BK153.out 1).trans rfl, (blk_cell BK153.out 2).trans rfl, (blk_cell BK153.out 3).trans rfl, (blk_cell BK153.out 4).trans rfl, (blk_cell BK153.out 5).trans rfl, (blk_cell BK153.out 6).trans rfl, (blk_cell BK153.out 7).trans rfl, (blk_cell BK153.out 8).trans rfl⟩ (fun hHeld => ?_)
                              clear hK K
                              refine norm_ (a' := ?_) ?_ ?_
                              rotate_left
                              · show Act.put _ (some 47) _ = _
                                simp only [Act.put, List.setIfInBounds_toArray, List.set_cons_zero, List.set_cons_succ, i64_w, i32_w]
                                rfl
                              refine pure_ (i := 14) (N := some 48) (v := ?_) (a' := ?_) #[true, true, true, true, true, true, true, true, true, true, true, true, true, true, true, false, false, false] rfl rfl (any_of HT_.out (by kernel_rfl)) (fun _ _ _ h => h) (Or.inl ⟨by rfl, ?_⟩) ?_ ?_
                              rotate_left
                              · intro w'
                                go_simp
                                with_reducible rfl
                              rotate_left
                              · simp only [Act.put, List.setIfInBounds_toArray, List.set_cons_zero, List.set_cons_succ, i64_w, i32_w]
                                rfl
                              refine one_ (i := 15) (N := some 49) #[true, true, true, true, true, true, true, true, true, true, true, true, true, true, true, true, false, false] rfl rfl (one_of HT_.out (by kernel_rfl)) (by decide) (fun K hK => ?_)
                              refine goes_ Try.func95 (by kernel_rfl) rfl #[.agg #[.int .i64 x146009_3, .int .i64 x146010_3, .int .i64 x146011_3, .int .i64 x146012_3], .agg #[.int .i64 t154, .int .i64 t155, .int .i64 t156, .int .i64 t157]] (by rfl) rfl rfl (by (try simp only [List.map_toArray, List.map_cons, List.map_nil]); first | done | rfl | (simp only [List.length_drop, List.length_take]; rfl)) ?_
                              with_reducible refine (clerestoryref3_Meets.calls x146009_3 x146010_3 x146011_3 x146012_3 t154 t155 t156 t157 t158 t159 t160 t161 _ A23.out).mono ?_
                              rintro e w30 ⟨rfl, hb⟩
                              refine ⟨_, rfl, ?_⟩
                              have n0_ := Aside0.mk (Kd.R_below (by (with_reducible repeat (first | apply Kd.R_alloc | apply Kd.R_drewN | apply Kd.R_drew)); exact HO_4.out) hb)
                              have n1_ := Aside0.mk (Kd.R_below (by (with_reducible repeat (first | apply Kd.R_alloc | apply Kd.R_drewN | apply Kd.R_drew)); exact HO_5.out) hb)
                              have n2_ := Aside0.mk (Kd.R_below (by (with_reducible repeat (first | apply Kd.R_alloc | apply Kd.R_drewN | apply Kd.R_drew)); exact HO_25.out) hb)
                              have n3_ := Aside0.mk (blk_below (g := gb144) (o := .cells #[.int .i64 ((rd_T45 l0 x13_1).f0), .int .i64 ((rd_T45 l0 x13_1).f1), .int .i64 ((rd_T45 l0 x13_1).f2), .int .i64 ((rd_T45 l0 x13_1).f3), .int .i64 ((rd_T45 l0 x13_1).f4), .int .i64 ((rd_T45 l0 x13_1).f5), .int .i64 ((rd_T45 l0 x13_1).f6), .int .i64 ((rd_T45 l0 x13_1).f7), .string ((rd_T45 l0 x13_1).f8)] 45 (0, 0)) (by (with_reducible repeat (first | refine blk_drewN ?_ _ | refine blk_drew ?_ | refine blk_alloc ?_ _)); exact BK144.out) hb)
                              have n4_ := Aside0.mk (blk_below (g := gb145) (o := .cells #[.int .i64 ((rd_T45 l0 x13_1).f0), .int .i64 ((rd_T45 l0 x13_1).f1), .int .i64 ((rd_T45 l0 x13_1).f2), .int .i64 ((rd_T45 l0 x13_1).f3), .int .i64 ((rd_T45 l0 x13_1).f4), .int .i64 ((rd_T45 l0 x13_1).f5), .int .i64 ((rd_T45 l0 x13_1).f6), .int .i64 ((rd_T45 l0 x13_1).f7), .string ((rd_T45 l0 x13_1).f8), .int .i64 x146009_3, .int .i64 x146010_3, .int .i64 x146011_3, .int .i64 x146012_3, .int .i64 x146013_3] 72 (0, 0)) (by (with_reducible repeat (first | refine blk_drewN ?_ _ | refine blk_drew ?_ | refine blk_alloc ?_ _)); exact BK145.out) hb)
                              have n5_ := Aside0.mk (blk_below (g := gb153) (o := .cells #[.int .i64 ((rd_T45 x4_1 x27_3).f0), .int .i64 ((rd_T45 x4_1 x27_3).f1), .int .i64 ((rd_T45 x4_1 x27_3).f2), .int .i64 ((rd_T45 x4_1 x27_3).f3), .int .i64 ((rd_T45 x4_1 x27_3).f4), .int .i64 ((rd_T45 x4_1 x27_3).f5), .int .i64 ((rd_T45 x4_1 x27_3).f6), .int .i64 ((rd_T45 x4_1 x27_3).f7), .string ((rd_T45 x4_1 x27_3).f8)] 45 (0, 0)) (by (with_reducible repeat (first | refine blk_drewN ?_ _ | refine blk_drew ?_ | refine blk_alloc ?_ _)); exact BK153.out) hb)
                              have n6_ := Aside0.mk (below_step (by repeat (first | (with_reducible first | exact HB.out | apply below_alloc | apply pw_below_drewN | apply below_drew1 | refine below_set ?_ GE144.out | refine below_set ?_ GE145.out | refine below_set ?_ GE153.out) | exact HB.out)) hb)
                              clear HO_4
                              clear HO_5
                              clear HO_25
                              clear BK144
                              clear BK145
                              clear BK153
                              clear HB
                              have HO_4 := n0_
                              have HO_5 := n1_
                              have HO_25 := n2_
                              have BK144 := n3_
                              have BK145 := n4_
                              have BK153 := n5_
                              have HB := n6_
                              clear n0_ n1_ n2_ n3_ n4_ n5_ n6_
                              (try clear hb)
                              (try clear hb2)
                              (try clear hk)
                              (try clear hi)
                              refine hK.out _ _ ⟨(blk_cell BK145.out 0).trans rfl, (blk_cell BK145.out 1).trans rfl, (blk_cell BK145.out 2).trans rfl, (blk_cell BK145.out 3).trans rfl, (blk_cell BK145.out 4).trans rfl, (blk_cell BK145.out 5).trans rfl, (blk_cell BK145.out 6).trans rfl, (blk_cell BK145.out 7).trans rfl, (blk_cell BK145.out 8).trans rfl, (blk_cell BK145.out 9).trans rfl, (blk_cell BK145.out 10).trans rfl, (blk_cell BK145.out 11).trans rfl, (blk_cell BK145.out 12).trans rfl, (blk_cell BK145.out 13).trans rfl, (blk_cell BK153.out 0).trans rfl, (blk_cell BK153.out 1).trans rfl, (blk_cell BK153.out 2).trans rfl, (blk_cell BK153.out 3).trans rfl, (blk_cell BK153.out 4).trans rfl, (blk_cell BK153.out 5).trans rfl, (blk_cell BK153.out 6).trans rfl, (blk_cell BK153.out 7).trans rfl, (blk_cell BK153.out 8).trans rfl⟩ (fun hHeld => ?_)
                              clear hK K
                              refine norm_ (a' := ?_) ?_ ?_
                              rotate_left
                              · show Act.put _ (some 49) _ = _
                                simp only [Act.put, List.setIfInBounds_toArray, List.set_cons_zero, List.set_cons_succ, i64_w, i32_w]
                                rfl
                              refine pure_ (i := 16) (N := some 50) (v := ?_) (a' := ?_) #[true, true, true, true, true, true, true, true, true, true, true, true, true, true, true, true, true, false] rfl rfl (any_of HT_.out (by kernel_rfl)) (fun _ _ _ h => h) (Or.inl ⟨by rfl, ?_⟩) ?_ ?_
                              rotate_left
                              · intro w'
                                go_simp
                                with_reducible rfl
                              rotate_left
                              · simp only [Act.put, List.setIfInBounds_toArray, List.set_cons_zero, List.set_cons_succ, i64_w, i32_w]
                                rfl
                              refine last_ (i := 17) (N := none) #[true, true, true, true, true, true, true, true, true, true, true, true, true, true, true, true, true, true] rfl rfl (one_of HT_.out (by kernel_rfl)) (by decide) (fun K hK => ?_)
                              have hs31 : w30.cell? ⟨gb145, 9, none⟩ = some (.int .i64 x146009_3) := (blk_cell BK145.out 9).trans rfl
                              have hfs31 := blk_frozen BK145.out 9
                              have hns31_0 := NB144_145.out
                              have hns31_2 := NB153_145.out
                              have hms31_0 := NB145_144.out
                              have hms31_2 := NB145_153.out
                              have hs32 : w30.cell? ⟨gb145, 10, none⟩ = some (.int .i64 x146010_3) := (blk_cell BK145.out 10).trans rfl
                              have hfs32 := blk_frozen BK145.out 10
                              have hns32_0 := NB144_145.out
                              have hns32_2 := NB153_145.out
                              have hms32_0 := NB145_144.out
                              have hms32_2 := NB145_153.out
                              have hs33 : w30.cell? ⟨gb145, 11, none⟩ = some (.int .i64 x146011_3) := (blk_cell BK145.out 11).trans rfl
                              have hfs33 := blk_frozen BK145.out 11
                              have hns33_0 := NB144_145.out
                              have hns33_2 := NB153_145.out
                              have hms33_0 := NB145_144.out
                              have hms33_2 := NB145_153.out
                              have hs34 : w30.cell? ⟨gb145, 12, none⟩ = some (.int .i64 x146012_3) := (blk_cell BK145.out 12).trans rfl
                              have hfs34 := blk_frozen BK145.out 12
                              have hns34_0 := NB144_145.out
                              have hns34_2 := NB153_145.out
                              have hms34_0 := NB145_144.out
                              have hms34_2 := NB145_153.out
                              refine skip_ (w1 := ?_) (by rfl) rfl ?_ ?_
                              rotate_left
                              · go_simp
                                rfl
                              refine hK.out _ _ ?_
                              clear hK K
                              refine done_ (done_of HT_.out (by kernel_rfl)) ?_
                              try go_wp2
                              go_roundg k3
                              case measure => have := HK1.out; have := HJ4.out; have := HK3.out; omega
                              case rel => exact ⟨(wrap64 (x27_3 + 1)), (t158), (t159), (t160), (t161), (x146013_3), (by first | rfl | (simp; done) | (simp [*]; done)), H', ⟨by have := HK1.out; have := HJ4.out; have := HK3.out; omega⟩, ⟨by (with_reducible repeat (first | apply Kd.R_alloc | apply Kd.R_drewN | apply Kd.R_drew)); exact Kd.R_mono (Kd.R_far (p := ⟨gb145, 12, none⟩) (Kd.R_far (p := ⟨gb145, 11, none⟩) (Kd.R_far (p := ⟨gb145, 10, none⟩) (Kd.R_far (p := ⟨gb145, 9, none⟩) (Kd.R_types HO_4.out BK145.out (by decide)) (fun _ hk => hk.2) (.int .i64 t158)) (fun _ hk => hk.2) (.int .i64 t159)) (fun _ hk => hk.2) (.int .i64 t160)) (fun _ hk => hk.2) (.int .i64 t161)) (fun _ hk => hk.1.1)⟩, ⟨by (with_reducible repeat (first | apply Kd.R_alloc | apply Kd.R_drewN | apply Kd.R_drew)); exact Kd.R_mono (Kd.R_far (p := ⟨gb145, 12, none⟩) (Kd.R_far (p := ⟨gb145, 11, none⟩) (Kd.R_far (p := ⟨gb145, 10, none⟩) (Kd.R_far (p := ⟨gb145, 9, none⟩) (Kd.R_mono HO_5.out (fun k_ hk => (⟨hk, hk⟩ : _ ∧ k_ ≠ gb145))) (fun _ hk => hk.2) (.int .i64 t158)) (fun _ hk => hk.2) (.int .i64 t159)) (fun _ hk => hk.2) (.int .i64 t160)) (fun _ hk => hk.2) (.int .i64 t161)) (fun _ hk => hk.1)⟩, ⟨by (with_reducible repeat (first | apply Kd.R_alloc | apply Kd.R_drewN | apply Kd.R_drew)); exact Kd.R_mono (Kd.R_far (p := ⟨gb145, 12, none⟩) (Kd.R_far (p := ⟨gb145, 11, none⟩) (Kd.R_far (p := ⟨gb145, 10, none⟩) (Kd.R_far (p := ⟨gb145, 9, none⟩) (Kd.R_types HO_25.out BK145.out (by decide)) (fun _ hk => hk.2) (.int .i64 t158)) (fun _ hk => hk.2) (.int .i64 t159)) (fun _ hk => hk.2) (.int .i64 t160)) (fun _ hk => hk.2) (.int .i64 t161)) (fun _ hk => hk.1.1)⟩, ⟨by (with_reducible repeat (first | refine blk_drewN ?_ _ | refine blk_drew ?_ | refine blk_alloc ?_ _)); refine blk_far ?_ NB144_145.out _; (with_reducible repeat (first | refine blk_drewN ?_ _ | refine blk_drew ?_ | refine blk_alloc ?_ _)); refine blk_far ?_ NB144_145.out _; (with_reducible repeat (first | refine blk_drewN ?_ _ | refine blk_drew ?_ | refine blk_alloc ?_ _)); refine blk_far ?_ NB144_145.out _; (with_reducible repeat (first | refine blk_drewN ?_ _ | refine blk_drew ?_ | refine blk_alloc ?_ _)); refine blk_far ?_ NB144_145.out _; (with_reducible repeat (first | refine blk_drewN ?_ _ | refine blk_drew ?_ | refine blk_alloc ?_ _)); exact BK144.out⟩, ⟨by (with_reducible repeat (first | refine blk_drewN ?_ _ | refine blk_drew ?_ | refine blk_alloc ?_ _)); refine blk_put (cs := #[.int .i64 ((rd_T45 l0 x13_1).f0), .int .i64 ((rd_T45 l0 x13_1).f1), .int .i64 ((rd_T45 l0 x13_1).f2), .int .i64 ((rd_T45 l0 x13_1).f3), .int .i64 ((rd_T45 l0 x13_1).f4), .int .i64 ((rd_T45 l0 x13_1).f5), .int .i64 ((rd_T45 l0 x13_1).f6), .int .i64 ((rd_T45 l0 x13_1).f7), .string ((rd_T45 l0 x13_1).f8), .int .i64 t158, .int .i64 t159, .int .i64 t160, .int .i64 x146012_3, .int .i64 x146013_3]) ?_ 12 _ rfl; (with_reducible repeat (first | refine blk_drewN ?_ _ | refine blk_drew ?_ | refine blk_alloc ?_ _)); refine blk_put (cs := #[.int .i64 ((rd_T45 l0 x13_1).f0), .int .i64 ((rd_T45 l0 x13_1).f1), .int .i64 ((rd_T45 l0 x13_1).f2), .int .i64 ((rd_T45 l0 x13_1).f3), .int .i64 ((rd_T45 l0 x13_1).f4), .int .i64 ((rd_T45 l0 x13_1).f5), .int .i64 ((rd_T45 l0 x13_1).f6), .int .i64 ((rd_T45 l0 x13_1).f7), .string ((rd_T45 l0 x13_1).f8), .int .i64 t158, .int .i64 t159, .int .i64 x146011_3, .int .i64 x146012_3, .int .i64 x146013_3]) ?_ 11 _ rfl; (with_reducible repeat (first | refine blk_drewN ?_ _ | refine blk_drew ?_ | refine blk_alloc ?_ _)); refine blk_put (cs := #[.int .i64 ((rd_T45 l0 x13_1).f0), .int .i64 ((rd_T45 l0 x13_1).f1), .int .i64 ((rd_T45 l0 x13_1).f2), .int .i64 ((rd_T45 l0 x13_1).f3), .int .i64 ((rd_T45 l0 x13_1).f4), .int .i64 ((rd_T45 l0 x13_1).f5), .int .i64 ((rd_T45 l0 x13_1).f6), .int .i64 ((rd_T45 l0 x13_1).f7), .string ((rd_T45 l0 x13_1).f8), .int .i64 t158, .int .i64 x146010_3, .int .i64 x146011_3, .int .i64 x146012_3, .int .i64 x146013_3]) ?_ 10 _ rfl; (with_reducible repeat (first | refine blk_drewN ?_ _ | refine blk_drew ?_ | refine blk_alloc ?_ _)); refine blk_put (cs := #[.int .i64 ((rd_T45 l0 x13_1).f0), .int .i64 ((rd_T45 l0 x13_1).f1), .int .i64 ((rd_T45 l0 x13_1).f2), .int .i64 ((rd_T45 l0 x13_1).f3), .int .i64 ((rd_T45 l0 x13_1).f4), .int .i64 ((rd_T45 l0 x13_1).f5), .int .i64 ((rd_T45 l0 x13_1).f6), .int .i64 ((rd_T45 l0 x13_1).f7), .string ((rd_T45 l0 x13_1).f8), .int .i64 x146009_3, .int .i64 x146010_3, .int .i64 x146011_3, .int .i64 x146012_3, .int .i64 x146013_3]) ?_ 9 _ rfl; (with_reducible repeat (first | refine blk_drewN ?_ _ | refine blk_drew ?_ | refine blk_alloc ?_ _)); exact BK145.out⟩, ⟨by repeat (first | (with_reducible first | exact HB.out | apply below_alloc | apply pw_below_drewN | apply below_drew1 | refine below_set ?_ GE144.out | refine below_set ?_ GE145.out | refine below_set ?_ GE153.out) | exact HB.out)⟩⟩
                            · rw [if_neg c18] at H
                              have c18b0 : (((rd_T45 x4_1 x27_3).f0) == 3) = false := beq_eq_false_iff_ne.mpr c18
                              have c18b1 : (((rd_T45 x4_1 x27_3).f0) != 3) = true := bne_iff_ne.mpr c18
                              obtain ⟨ji35, hji35⟩ : ∃ j_ : Int, (mx ((rd_T45 x4_1 x27_3).f7) 0) = j_ := ⟨_, rfl⟩
                              replace H : (clerestoryref3_Flat.l1 k3 x4_1 x5_1 l0 (l0.length : Int) x13_1 x4_1 (x4_1.length : Int) (wrap64 (x27_3 + 1)) ((rd_T45 l0 x13_1).f0) ((rd_T45 l0 x13_1).f1) ((rd_T45 l0 x13_1).f2) ((rd_T45 l0 x13_1).f3) ((rd_T45 l0 x13_1).f4) ((rd_T45 l0 x13_1).f5) ((rd_T45 l0 x13_1).f6) ((rd_T45 l0 x13_1).f7) ((rd_T45 l0 x13_1).f8) x146009_3 x146010_3 x146011_3 x146012_3 (wrap64 (Int.tdiv (wrap64 (x146013_3 * (mn (ji35) 1000))) 1000))) = some (r1, r2) := by first | (rw [hji35] at H; exact H) | (simp only [hji35] at H ⊢; exact H)
                              have hji35_ : (if ((rd_T45 x4_1 x27_3).f7) < 0 then 0 else ((rd_T45 x4_1 x27_3).f7)) = ji35 := hji35
                              obtain ⟨ji36, hji36⟩ : ∃ j_ : Int, (mn (ji35) 1000) = j_ := ⟨_, rfl⟩
                              replace H : (clerestoryref3_Flat.l1 k3 x4_1 x5_1 l0 (l0.length : Int) x13_1 x4_1 (x4_1.length : Int) (wrap64 (x27_3 + 1)) ((rd_T45 l0 x13_1).f0) ((rd_T45 l0 x13_1).f1) ((rd_T45 l0 x13_1).f2) ((rd_T45 l0 x13_1).f3) ((rd_T45 l0 x13_1).f4) ((rd_T45 l0 x13_1).f5) ((rd_T45 l0 x13_1).f6) ((rd_T45 l0 x13_1).f7) ((rd_T45 l0 x13_1).f8) x146009_3 x146010_3 x146011_3 x146012_3 (wrap64 (Int.tdiv (wrap64 (x146013_3 * (ji36))) 1000))) = some (r1, r2) := by first | (rw [hji36] at H; exact H) | (simp only [hji36] at H ⊢; exact H)
                              have hji36_ : (if 1000 < (ji35) then 1000 else (ji35)) = ji36 := hji36
                              have H' := Aside0.mk H
                              clear H
                              have p152 : 0 ≤ (x27_3 : Int) := of_decide_eq_true (by first | (with_reducible assumption) | assumption)
                              have q152 : x27_3 < (x4_1.length : Int) := of_decide_eq_true (by first | (with_reducible assumption) | assumption)
                              obtain ⟨ad152, e152, hx152_0, hx152_1, hx152_2, hx152_3, hx152_4, hx152_5, hx152_6, hx152_7, hx152_8⟩ := at_T45 (Kd.R_reads' HO_25.out).2.2 x27_3 p152 q152
                              cases e152
                              replace p152 := eq_true p152
                              replace q152 := eq_true q152
                              go_wp2_with (first | ((with_reducible refine gate_dst (N := 10) rfl ?_); refine box_event ?hg (N := 10) ?hd (cs := #[.int .i64 0, .int .i64 0, .int .i64 0, .int .i64 0, .int .i64 0, .int .i64 0, .int .i64 0, .int .i64 0, .string (⟨#[]⟩ : ByteArray)]) (t := 45) ?hr ?_; (case hd => rfl); (case hg => rfl); (case hr => first | (go_simp; done) | (go_simp; rfl)); intro gb153 hg w37 hbox hb; have n0_ := Aside0.mk (Kd.R_below (Kd.R_elderB (by (with_reducible repeat (first | apply Kd.R_alloc | apply Kd.R_drewN | apply Kd.R_drew)); exact HO_4.out) gb153 (Nat.le_of_eq hg.symm)) hb); have n1_ := Aside0.mk (Kd.R_below (by (with_reducible repeat (first | apply Kd.R_alloc | apply Kd.R_drewN | apply Kd.R_drew)); exact HO_5.out) hb); have n2_ := Aside0.mk (Kd.R_below (Kd.R_elderB (by (with_reducible repeat (first | apply Kd.R_alloc | apply Kd.R_drewN | apply Kd.R_drew)); exact HO_25.out) gb153 (Nat.le_of_eq hg.symm)) hb); have n3_ := Aside0.mk (blk_below (g := gb144) (o := .cells #[.int .i64 ((rd_T45 l0 x13_1).f0), .int .i64 ((rd_T45 l0 x13_1).f1), .int .i64 ((rd_T45 l0 x13_1).f2), .int .i64 ((rd_T45 l0 x13_1).f3), .int .i64 ((rd_T45 l0 x13_1).f4), .int .i64 ((rd_T45 l0 x13_1).f5), .int .i64 ((rd_T45 l0 x13_1).f6), .int .i64 ((rd_T45 l0 x13_1).f7), .string ((rd_T45 l0 x13_1).f8)] 45 (0, 0)) (by (with_reducible repeat (first | refine blk_drewN ?_ _ | refine blk_drew ?_ | refine blk_alloc ?_ _)); exact BK144.out) hb); have n4_ := Aside0.mk (blk_below (g := gb145) (o := .cells #[.int .i64 ((rd_T45 l0 x13_1).f0), .int .i64 ((rd_T45 l0 x13_1).f1), .int .i64 ((rd_T45 l0 x13_1).f2), .int .i64 ((rd_T45 l0 x13_1).f3), .int .i64 ((rd_T45 l0 x13_1).f4), .int .i64 ((rd_T45 l0 x13_1).f5), .int .i64 ((rd_T45 l0 x13_1).f6), .int .i64 ((rd_T45 l0 x13_1).f7), .string ((rd_T45 l0 x13_1).f8), .int .i64 x146009_3, .int .i64 x146010_3, .int .i64 x146011_3, .int .i64 x146012_3, .int .i64 x146013_3] 72 (0, 0)) (by (with_reducible repeat (first | refine blk_drewN ?_ _ | refine blk_drew ?_ | refine blk_alloc ?_ _)); exact BK145.out) hb); have n5_ := Aside0.mk (below_step (by repeat (first | (with_reducible first | exact HB.out | apply below_alloc | apply pw_below_drewN | apply below_drew1 | refine below_set ?_ GE144.out | refine below_set ?_ GE145.out) | exact HB.out)) hb); have n6_ := Aside0.mk (hbox); have n7_ := Aside0.mk ((by rw [hg]; exact (below_size (by repeat (first | (with_reducible first | exact HB.out | apply below_alloc | apply pw_below_drewN | apply below_drew1 | refine below_set ?_ GE144.out | refine below_set ?_ GE145.out) | exact HB.out))) : w.heap.size ≤ gb153)); have n8_ := Aside0.mk ((by rw [hg]; exact (below_size (by repeat (first | (with_reducible first | exact HB.out | apply below_alloc | apply pw_below_drewN | apply below_drew1 | refine below_set ?_ GE144.out | refine below_set ?_ GE145.out) | exact HB.out))) : w.heap.size ≤ gb153)); have n9_ := Aside0.mk ((by rw [hg]; exact Nat.ne_of_lt (blk_lt (g := gb144) (o := .cells #[.int .i64 ((rd_T45 l0 x13_1).f0), .int .i64 ((rd_T45 l0 x13_1).f1), .int .i64 ((rd_T45 l0 x13_1).f2), .int .i64 ((rd_T45 l0 x13_1).f3), .int .i64 ((rd_T45 l0 x13_1).f4), .int .i64 ((rd_T45 l0 x13_1).f5), .int .i64 ((rd_T45 l0 x13_1).f6), .int .i64 ((rd_T45 l0 x13_1).f7), .string ((rd_T45 l0 x13_1).f8)] 45 (0, 0)) (by (with_reducible repeat (first | refine blk_drewN ?_ _ | refine blk_drew ?_ | refine blk_alloc ?_ _)); exact BK144.out)) : gb144 ≠ gb153)); have n10_ := Aside0.mk ((by rw [hg]; exact Nat.ne_of_gt (blk_lt (g := gb144) (o := .cells #[.int .i64 ((rd_T45 l0 x13_1).f0), .int .i64 ((rd_T45 l0 x13_1).f1), .int .i64 ((rd_T45 l0 x13_1).f2), .int .i64 ((rd_T45 l0 x13_1).f3), .int .i64 ((rd_T45 l0 x13_1).f4), .int .i64 ((rd_T45 l0 x13_1).f5), .int .i64 ((rd_T45 l0 x13_1).f6), .int .i64 ((rd_T45 l0 x13_1).f7), .string ((rd_T45 l0 x13_1).f8)] 45 (0, 0)) (by (with_reducible repeat (first | refine blk_drewN ?_ _ | refine blk_drew ?_ | refine blk_alloc ?_ _)); exact BK144.out)) : gb153 ≠ gb144)); have n11_ := Aside0.mk ((by rw [hg]; exact Nat.ne_of_lt (blk_lt (g := gb145) (o := .cells #[.int .i64 ((rd_T45 l0 x13_1).f0), .int .i64 ((rd_T45 l0 x13_1).f1), .int .i64 ((rd_T45 l0 x13_1).f2), .int .i64 ((rd_T45 l0 x13_1).f3), .int .i64 ((rd_T45 l0 x13_1).f4), .int .i64 ((rd_T45 l0 x13_1).f5), .int .i64 ((rd_T45 l0 x13_1).f6), .int .i64 ((rd_T45 l0 x13_1).f7), .string ((rd_T45 l0 x13_1).f8), .int .i64 x146009_3, .int .i64 x146010_3, .int .i64 x146011_3, .int .i64 x146012_3, .int .i64 x146013_3] 72 (0, 0)) (by (with_reducible repeat (first | refine blk_drewN ?_ _ | refine blk_drew ?_ | refine blk_alloc ?_ _)); exact BK145.out)) : gb145 ≠ gb153)); have n12_ := Aside0.mk ((by rw [hg]; exact Nat.ne_of_gt (blk_lt (g := gb145) (o := .cells #[.int .i64 ((rd_T45 l0 x13_1).f0), .int .i64 ((rd_T45 l0 x13_1).f1), .int .i64 ((rd_T45 l0 x13_1).f2), .int .i64 ((rd_T45 l0 x13_1).f3), .int .i64 ((rd_T45 l0 x13_1).f4), .int .i64 ((rd_T45 l0 x13_1).f5), .int .i64 ((rd_T45 l0 x13_1).f6), .int .i64 ((rd_T45 l0 x13_1).f7), .string ((rd_T45 l0 x13_1).f8), .int .i64 x146009_3, .int .i64 x146010_3, .int .i64 x146011_3, .int .i64 x146012_3, .int .i64 x146013_3] 72 (0, 0)) (by (with_reducible repeat (first | refine blk_drewN ?_ _ | refine blk_drew ?_ | refine blk_alloc ?_ _)); exact BK145.out)) : gb153 ≠ gb145)); clear HO_4; clear HO_5; clear HO_25; clear BK144; clear BK145; clear HB; have HO_4 := n0_; have HO_5 := n1_; have HO_25 := n2_; have BK144 := n3_; have BK145 := n4_; have HB := n5_; have BK153 := n6_; have GW153 := n7_; have GE153 := n8_; have NB144_153 := n9_; have NB153_144 := n10_; have NB145_153 := n11_; have NB153_145 := n12_; clear n0_ n1_ n2_ n3_ n4_ n5_ n6_ n7_ n8_ n9_ n10_ n11_ n12_; clear hb hbox hg; have hnb38 := NB153_144.out; have hnc38 := NB144_153.out; have hnb39 := NB153_145.out; have hnc39 := NB145_153.out; have hcz40_0 : w37.cell? ⟨gb153, 0, none⟩ = some (.int .i64 0) := (blk_cell BK153.out 0).trans rfl; have hcz40_1 : w37.cell? ⟨gb153, 1, none⟩ = some (.int .i64 0) := (blk_cell BK153.out 1).trans rfl; have hcz40_2 : w37.cell? ⟨gb153, 2, none⟩ = some (.int .i64 0) := (blk_cell BK153.out 2).trans rfl; have hcz40_3 : w37.cell? ⟨gb153, 3, none⟩ = some (.int .i64 0) := (blk_cell BK153.out 3).trans rfl; have hcz40_4 : w37.cell? ⟨gb153, 4, none⟩ = some (.int .i64 0) := (blk_cell BK153.out 4).trans rfl; have hcz40_5 : w37.cell? ⟨gb153, 5, none⟩ = some (.int .i64 0) := (blk_cell BK153.out 5).trans rfl; have hcz40_6 : w37.cell? ⟨gb153, 6, none⟩ = some (.int .i64 0) := (blk_cell BK153.out 6).trans rfl; have hcz40_7 : w37.cell? ⟨gb153, 7, none⟩ = some (.int .i64 0) := (blk_cell BK153.out 7).trans rfl; have hcz40_8 : w37.cell? ⟨gb153, 8, none⟩ = some (.string (⟨#[]⟩ : ByteArray)) := (blk_cell BK153.out 8).trans rfl; have hfz40_0 := blk_frozen BK153.out 0; have hfz40_1 := blk_frozen BK153.out 1; have hfz40_2 := blk_frozen BK153.out 2; have hfz40_3 := blk_frozen BK153.out 3; have hfz40_4 := blk_frozen BK153.out 4; have hfz40_5 := blk_frozen BK153.out 5; have hfz40_6 := blk_frozen BK153.out 6; have hfz40_7 := blk_frozen BK153.out 7; have hfz40_8 := blk_frozen BK153.out 8; have hnb41 := NB145_144.out; have hnc41 := NB144_145.out; have hcz42_0 : w37.cell? ⟨gb145, 0, none⟩ = some (.int .i64 ((rd_T45 l0 x13_1).f0)) := (blk_cell BK145.out 0).trans rfl; have hcz42_1 : w37.cell? ⟨gb145, 1, none⟩ = some (.int .i64 ((rd_T45 l0 x13_1).f1)) := (blk_cell BK145.out 1).trans rfl; have hcz42_2 : w37.cell? ⟨gb145, 2, none⟩ = some (.int .i64 ((rd_T45 l0 x13_1).f2)) := (blk_cell BK145.out 2).trans rfl; have hcz42_3 : w37.cell? ⟨gb145, 3, none⟩ = some (.int .i64 ((rd_T45 l0 x13_1).f3)) := (blk_cell BK145.out 3).trans rfl; have hcz42_4 : w37.cell? ⟨gb145, 4, none⟩ = some (.int .i64 ((rd_T45 l0 x13_1).f4)) := (blk_cell BK145.out 4).trans rfl; have hcz42_5 : w37.cell? ⟨gb145, 5, none⟩ = some (.int .i64 ((rd_T45 l0 x13_1).f5)) := (blk_cell BK145.out 5).trans rfl; have hcz42_6 : w37.cell? ⟨gb145, 6, none⟩ = some (.int .i64 ((rd_T45 l0 x13_1).f6)) := (blk_cell BK145.out 6).trans rfl; have hcz42_7 : w37.cell? ⟨gb145, 7, none⟩ = some (.int .i64 ((rd_T45 l0 x13_1).f7)) := (blk_cell BK145.out 7).trans rfl; have hcz42_8 : w37.cell? ⟨gb145, 8, none⟩ = some (.string ((rd_T45 l0 x13_1).f8)) := (blk_cell BK145.out 8).trans rfl; have hcz42_9 : w37.cell? ⟨gb145, 9, none⟩ = some (.int .i64 x146009_3) := (blk_cell BK145.out 9).trans rfl; have hcz42_10 : w37.cell? ⟨gb145, 10, none⟩ = some (.int .i64 x146010_3) := (blk_cell BK145.out 10).trans rfl; have hcz42_11 : w37.cell? ⟨gb145, 11, none⟩ = some (.int .i64 x146011_3) := (blk_cell BK145.out 11).trans rfl; have hcz42_12 : w37.cell? ⟨gb145, 12, none⟩ = some (.int .i64 x146012_3) := (blk_cell BK145.out 12).trans rfl; have hcz42_13 : w37.cell? ⟨gb145, 13, none⟩ = some (.int .i64 x146013_3) := (blk_cell BK145.out 13).trans rfl; have hfz42_0 := blk_frozen BK145.out 0; have hfz42_1 := blk_frozen BK145.out 1; have hfz42_2 := blk_frozen BK145.out 2; have hfz42_3 := blk_frozen BK145.out 3; have hfz42_4 := blk_frozen BK145.out 4; have hfz42_5 := blk_frozen BK145.out 5; have hfz42_6 := blk_frozen BK145.out 6; have hfz42_7 := blk_frozen BK145.out 7; have hfz42_8 := blk_frozen BK145.out 8; have hfz42_9 := blk_frozen BK145.out 9; have hfz42_10 := blk_frozen BK145.out 10; have hfz42_11 := blk_frozen BK145.out 11; have hfz42_12 := blk_frozen BK145.out 12; have hfz42_13 := blk_frozen BK145.out 13))
                              go_roundg k3
                              case measure => have := HK1.out; have := HJ4.out; have := HK3.out; omega
                              case rel => exact ⟨(wrap64 (x27_3 + 1)), (x146009_3), (x146010_3), (x146011_3), (x146012_3), (wrap64 (Int.tdiv (wrap64 (x146013_3 * (ji36))) 1000)), (by first | rfl | (simp; done) | (simp [*]; done)), H', ⟨by have := HK1.out; have := HJ4.out; have := HK3.out; omega⟩, ⟨by (with_reducible repeat (first | apply Kd.R_alloc | apply Kd.R_drewN | apply Kd.R_drew)); exact Kd.R_mono (Kd.R_far (p := ⟨gb145, 13, none⟩) (Kd.R_far (p := ⟨gb153, 8, none⟩) (Kd.R_far (p := ⟨gb153, 7, none⟩) (Kd.R_far (p := ⟨gb153, 6, none⟩) (Kd.R_far (p := ⟨gb153, 5, none⟩) (Kd.R_far (p := ⟨gb153, 4, none⟩) (Kd.R_far (p := ⟨gb153, 3, none⟩) (Kd.R_far (p := ⟨gb153, 2, none⟩) (Kd.R_far (p := ⟨gb153, 1, none⟩) (Kd.R_far (p := ⟨gb153, 0, none⟩) (Kd.R_types (Kd.R_mono HO_4.out (fun k_ hk => (⟨hk, hk.2⟩ : _ ∧ k_ ≠ gb153))) BK145.out (by decide)) (fun _ hk => hk.1.2) (.int .i64 ((rd_T45 x4_1 x27_3).f0))) (fun _ hk => hk.1.2) (.int .i64 ((rd_T45 x4_1 x27_3).f1))) (fun _ hk => hk.1.2) (.int .i64 ((rd_T45 x4_1 x27_3).f2))) (fun _ hk => hk.1.2) (.int .i64 ((rd_T45 x4_1 x27_3).f3))) (fun _ hk => hk.1.2) (.int .i64 ((rd_T45 x4_1 x27_3).f4))) (fun _ hk => hk.1.2) (.int .i64 ((rd_T45 x4_1 x27_3).f5))) (fun _ hk => hk.1.2) (.int .i64 ((rd_T45 x4_1 x27_3).f6))) (fun _ hk => hk.1.2) (.int .i64 ((rd_T45 x4_1 x27_3).f7))) (fun _ hk => hk.1.2) (.string ((rd_T45 x4_1 x27_3).f8))) (fun _ hk => hk.2) (.int .i64 (wrap64 (Int.tdiv (wrap64 (x146013_3 * (ji36))) 1000)))) (fun _ hk => hk.1.1.1)⟩, ⟨by (with_reducible repeat (first | apply Kd.R_alloc | apply Kd.R_drewN | apply Kd.R_drew)); exact Kd.R_mono (Kd.R_far (p := ⟨gb145, 13, none⟩) (Kd.R_far (p := ⟨gb153, 8, none⟩) (Kd.R_far (p := ⟨gb153, 7, none⟩) (Kd.R_far (p := ⟨gb153, 6, none⟩) (Kd.R_far (p := ⟨gb153, 5, none⟩) (Kd.R_far (p := ⟨gb153, 4, none⟩) (Kd.R_far (p := ⟨gb153, 3, none⟩) (Kd.R_far (p := ⟨gb153, 2, none⟩) (Kd.R_far (p := ⟨gb153, 1, none⟩) (Kd.R_far (p := ⟨gb153, 0, none⟩) (Kd.R_mono (Kd.R_types HO_5.out BK153.out (by decide)) (fun k_ hk => (⟨hk, hk.1⟩ : _ ∧ k_ ≠ gb145))) (fun _ hk => hk.1.2) (.int .i64 ((rd_T45 x4_1 x27_3).f0))) (fun _ hk => hk.1.2) (.int .i64 ((rd_T45 x4_1 x27_3).f1))) (fun _ hk => hk.1.2) (.int .i64 ((rd_T45 x4_1 x27_3).f2))) (fun _ hk => hk.1.2) (.int .i64 ((rd_T45 x4_1 x27_3).f3))) (fun _ hk => hk.1.2) (.int .i64 ((rd_T45 x4_1 x27_3).f4))) (fun _ hk => hk.1.2) (.int .i64 ((rd_T45 x4_1 x27_3).f5))) (fun _ hk => hk.1.2) (.int .i64 ((rd_T45 x4_1 x27_3).f6))) (fun _ hk => hk.1.2) (.int .i64 ((rd_T45 x4_1 x27_3).f7))) (fun _ hk => hk.1.2) (.string ((rd_T45 x4_1 x27_3).f8))) (fun _ hk => hk.2) (.int .i64 (wrap64 (Int.tdiv (wrap64 (x146013_3 * (ji36))) 1000)))) (fun _ hk => hk.1.1)⟩, ⟨by (with_reducible repeat (first | apply Kd.R_alloc | apply Kd.R_drewN | apply Kd.R_drew)); exact Kd.R_mono (Kd.R_far (p := ⟨gb145, 13, none⟩) (Kd.R_far (p := ⟨gb153, 8, none⟩) (Kd.R_far (p := ⟨gb153, 7, none⟩) (Kd.R_far (p := ⟨gb153, 6, none⟩) (Kd.R_far (p := ⟨gb153, 5, none⟩) (Kd.R_far (p := ⟨gb153, 4, none⟩) (Kd.R_far (p := ⟨gb153, 3, none⟩) (Kd.R_far (p := ⟨gb153, 2, none⟩) (Kd.R_far (p := ⟨gb153, 1, none⟩) (Kd.R_far (p := ⟨gb153, 0, none⟩) (Kd.R_types (Kd.R_mono HO_25.out (fun k_ hk => (⟨hk, hk.2⟩ : _ ∧ k_ ≠ gb153))) BK145.out (by decide)) (fun _ hk => hk.1.2) (.int .i64 ((rd_T45 x4_1 x27_3).f0))) (fun _ hk => hk.1.2) (.int .i64 ((rd_T45 x4_1 x27_3).f1))) (fun _ hk => hk.1.2) (.int .i64 ((rd_T45 x4_1 x27_3).f2))) (fun _ hk => hk.1.2) (.int .i64 ((rd_T45 x4_1 x27_3).f3))) (fun _ hk => hk.1.2) (.int .i64 ((rd_T45 x4_1 x27_3).f4))) (fun _ hk => hk.1.2) (.int .i64 ((rd_T45 x4_1 x27_3).f5))) (fun _ hk => hk.1.2) (.int .i64 ((rd_T45 x4_1 x27_3).f6))) (fun _ hk => hk.1.2) (.int .i64 ((rd_T45 x4_1 x27_3).f7))) (fun _ hk => hk.1.2) (.string ((rd_T45 x4_1 x27_3).f8))) (fun _ hk => hk.2) (.int .i64 (wrap64 (Int.tdiv (wrap64 (x146013_3 * (ji36))) 1000)))) (fun _ hk => hk.1.1.1)⟩, ⟨by (with_reducible repeat (first | refine blk_drewN ?_ _ | refine blk_drew ?_ | refine blk_alloc ?_ _)); refine blk_far ?_ NB144_145.out _; (with_reducible repeat (first | refine blk_drewN ?_ _ | refine blk_drew ?_ | refine blk_alloc ?_ _)); refine blk_far ?_ NB144_153.out _; (with_reducible repeat (first | refine blk_drewN ?_ _ | refine blk_drew ?_ | refine blk_alloc ?_ _)); refine blk_far ?_ NB144_153.out _; (with_reducible repeat (first | refine blk_drewN ?_ _ | refine blk_drew ?_ | refine blk_alloc ?_ _)); refine blk_far ?_ NB144_153.out _; (with_reducible repeat (first | refine blk_drewN ?_ _ | refine blk_drew ?_ | refine blk_alloc ?_ _)); refine blk_far ?_ NB144_153.out _; (with_reducible repeat (first | refine blk_drewN ?_ _ | refine blk_drew ?_ | refine blk_alloc ?_ _)); refine blk_far ?_ NB144_153.out _; (with_reducible repeat (first | refine blk_drewN ?_ _ | refine blk_drew ?_ | refine blk_alloc ?_ _)); refine blk_far ?_ NB144_153.out _; (with_reducible repeat (first | refine blk_drewN ?_ _ | refine blk_drew ?_ | refine blk_alloc ?_ _)); refine blk_far ?_ NB144_153.out _; (with_reducible repeat (first | refine blk_drewN ?_ _ | refine blk_drew ?_ | refine blk_alloc ?_ _)); refine blk_far ?_ NB144_153.out _; (with_reducible repeat (first | refine blk_drewN ?_ _ | refine blk_drew ?_ | refine blk_alloc ?_ _)); refine blk_far ?_ NB144_153.out _; (with_reducible repeat (first | refine blk_drewN ?_ _ | refine blk_drew ?_ | refine blk_alloc ?_ _)); exact BK144.out⟩, ⟨by (with_reducible repeat (first | refine blk_drewN ?_ _ | refine blk_drew ?_ | refine blk_alloc ?_ _)); refine blk_put (cs := #[.int .i64 ((rd_T45 l0 x13_1).f0), .int .i64 ((rd_T45 l0 x13_1).f1), .int .i64 ((rd_T45 l0 x13_1).f2), .int .i64 ((rd_T45 l0 x13_1).f3), .int .i64 ((rd_T45 l0 x13_1).f4), .int .i64 ((rd_T45 l0 x13_1).f5), .int .i64 ((rd_T45 l0 x13_1).f6), .int .i64 ((rd_T45 l0 x13_1).f7), .string ((rd_T45 l0 x13_1).f8), .int .i64 x146009_3, .int .i64 x146010_3, .int .i64 x146011_3, .int .i64 x146012_3, .int .i64 x146013_3]) ?_ 13 _ rfl; (with_reducible repeat (first | refine blk_drewN ?_ _ | refine blk_drew ?_ | refine blk_alloc ?_ _)); refine blk_far ?_ NB145_153.out _; (with_reducible repeat (first | refine blk_drewN ?_ _ | refine blk_drew ?_ | refine blk_alloc ?_ _)); refine blk_far ?_ NB145_153.out _; (with_reducible repeat (first | refine blk_drewN ?_ _ | refine blk_drew ?_ | refine blk_alloc ?_ _)); refine blk_far ?_ NB145_153.out _; (with_reducible repeat (first | refine blk_drewN ?_ _ | refine blk_drew ?_ | refine blk_alloc ?_ _)); refine blk_far ?_ NB145_153.out _; (with_reducible repeat (first | refine blk_drewN ?_ _ | refine blk_drew ?_ | refine blk_alloc ?_ _)); refine blk_far ?_ NB145_153.out _; (with_reducible repeat (first | refine blk_drewN ?_ _ | refine blk_drew ?_ | refine blk_alloc ?_ _)); refine blk_far ?_ NB145_153.out _; (with_reducible repeat (first | refine blk_drewN ?_ _ | refine blk_drew ?_ | refine blk_alloc ?_ _)); refine blk_far ?_ NB145_153.out _; (with_reducible repeat (first | refine blk_drewN ?_ _ | refine blk_drew ?_ | refine blk_alloc ?_ _)); refine blk_far ?_ NB145_153.out _; (with_reducible repeat (first | refine blk_drewN ?_ _ | refine blk_drew ?_ | refine blk_alloc ?_ _)); refine blk_far ?_ NB145_153.out _; (with_reducible repeat (first | refine blk_drewN ?_ _ | refine blk_drew ?_ | refine blk_alloc ?_ _)); exact BK145.out⟩, ⟨by repeat (first | (with_reducible first | exact HB.out | apply below_alloc | apply pw_below_drewN | apply below_drew1 | refine below_set ?_ GE144.out | refine below_set ?_ GE145.out | refine below_set ?_ GE153.out) | exact HB.out)⟩⟩
                          · rw [if_neg c17] at H
                            exact absurd H (by simp)
                        · rw [if_neg c16] at H
                          exact absurd H (by simp)
                      · rw [if_neg c15] at H
                        have c15b0 : decide (x27_3 < (x4_1.length : Int)) = false := decide_eq_false c15
                        clear c15
                        obtain ⟨y146, hy146⟩ : ∃ y_ : List (S72), y_ = (([(⟨(⟨((rd_T45 l0 x13_1).f0), ((rd_T45 l0 x13_1).f1), ((rd_T45 l0 x13_1).f2), ((rd_T45 l0 x13_1).f3), ((rd_T45 l0 x13_1).f4), ((rd_T45 l0 x13_1).f5), ((rd_T45 l0 x13_1).f6), ((rd_T45 l0 x13_1).f7), ((rd_T45 l0 x13_1).f8)⟩ : S45), (⟨x146009_3, x146010_3, x146011_3, x146012_3⟩ : S70), x146013_3⟩ : S72)] : List (S72))) := ⟨_, rfl⟩
                        replace H : (if x5_1.length + y146.length < 1172812402961 then (clerestoryref3_Flat.l0 k3 x4_1 (x5_1 ++ y146) l0 (l0.length : Int) (wrap64 (x13_1 + 1))) else (none)) = some (r1, r2) := by first | (rw [hy146]; with_reducible exact H) | (have H2_ := (Option.bind_some _ _).symm.trans H; rw [hy146]; with_reducible exact H2_) | (have H2_ := (Option.bind_some _ _).symm.trans H; with_reducible exact H2_) | with_reducible exact H | (rw [hy146]; exact H) | exact H
                        have Ny146 := Aside0.mk hy146
                        clear hy146
                        by_cases c43 : x5_1.length + y146.length < 1172812402961
                        · rw [if_pos c43] at H
                          have LMc43 := Aside0.mk c43
                          clear c43
                          obtain ⟨y149, hy149⟩ : ∃ y_ : List (S72), y_ = (x5_1 ++ y146) := ⟨_, rfl⟩
                          replace H : (clerestoryref3_Flat.l0 k3 x4_1 y149 l0 (l0.length : Int) (wrap64 (x13_1 + 1))) = some (r1, r2) := by first | (rw [hy149]; with_reducible exact H) | (have H2_ := (Option.bind_some _ _).symm.trans H; rw [hy149]; with_reducible exact H2_) | (have H2_ := (Option.bind_some _ _).symm.trans H; with_reducible exact H2_) | with_reducible exact H | (rw [hy149]; exact H) | exact H
                          have Ny149 := Aside0.mk hy149
                          clear hy149
                          have H' := Aside0.mk H
                          clear H
                          have hnb44 := NB145_144.out
                          have hnc44 := NB144_145.out
                          have hcz45_0 : wr.cell? ⟨gb145, 0, none⟩ = some (.int .i64 ((rd_T45 l0 x13_1).f0)) := (blk_cell BK145.out 0).trans rfl
                          have hcz45_1 : wr.cell? ⟨gb145, 1, none⟩ = some (.int .i64 ((rd_T45 l0 x13_1).f1)) := (blk_cell BK145.out 1).trans rfl
                          have hcz45_2 : wr.cell? ⟨gb145, 2, none⟩ = some (.int .i64 ((rd_T45 l0 x13_1).f2)) := (blk_cell BK145.out 2).trans rfl
                          have hcz45_3 : wr.cell? ⟨gb145, 3, none⟩ = some (.int .i64 ((rd_T45 l0 x13_1).f3)) := (blk_cell BK145.out 3).trans rfl
                          have hcz45_4 : wr.cell? ⟨gb145, 4, none⟩ = some (.int .i64 ((rd_T45 l0 x13_1).f4)) := (blk_cell BK145.out 4).trans rfl
                          have hcz45_5 : wr.cell? ⟨gb145, 5, none⟩ = some (.int .i64 ((rd_T45 l0 x13_1).f5)) := (blk_cell BK145.out 5).trans rfl
                          have hcz45_6 : wr.cell? ⟨gb145, 6, none⟩ = some (.int .i64 ((rd_T45 l0 x13_1).f6)) := (blk_cell BK145.out 6).trans rfl
                          have hcz45_7 : wr.cell? ⟨gb145, 7, none⟩ = some (.int .i64 ((rd_T45 l0 x13_1).f7)) := (blk_cell BK145.out 7).trans rfl
                          have hcz45_8 : wr.cell? ⟨gb145, 8, none⟩ = some (.string ((rd_T45 l0 x13_1).f8)) := (blk_cell BK145.out 8).trans rfl
                          have hcz45_9 : wr.cell? ⟨gb145, 9, none⟩ = some (.int .i64 x146009_3) := (blk_cell BK145.out 9).trans rfl
                          have hcz45_10 : wr.cell? ⟨gb145, 10, none⟩ = some (.int .i64 x146010_3) := (blk_cell BK145.out 10).trans rfl
                          have hcz45_11 : wr.cell? ⟨gb145, 11, none⟩ = some (.int .i64 x146011_3) := (blk_cell BK145.out 11).trans rfl
                          have hcz45_12 : wr.cell? ⟨gb145, 12, none⟩ = some (.int .i64 x146012_3) := (blk_cell BK145.out 12).trans rfl
                          have hcz45_13 : wr.cell? ⟨gb145, 13, none⟩ = some (.int .i64 x146013_3) := (blk_cell BK145.out 13).trans rfl
                          have hfz45_0 := blk_frozen BK145.out 0
                          have hfz45_1 := blk_frozen BK145.out 1
                          have hfz45_2 := blk_frozen BK145.out 2
                          have hfz45_3 := blk_frozen BK145.out 3
                          have hfz45_4 := blk_frozen BK145.out 4
                          have hfz45_5 := blk_frozen BK145.out 5
                          have hfz45_6 := blk_frozen BK145.out 6
                          have hfz45_7 := blk_frozen BK145.out 7
                          have hfz45_8 := blk_frozen BK145.out 8
                          have hfz45_9 := blk_frozen BK145.out 9
                          have hfz45_10 := blk_frozen BK145.out 10
                          have hfz45_11 := blk_frozen BK145.out 11
                          have hfz45_12 := blk_frozen BK145.out 12
                          have hfz45_13 := blk_frozen BK145.out 13
                          go_wp2_with (first | ((with_reducible refine gate_dst (N := 63) rfl ?_); refine Kd.R_lit k72 _ 72 ?hg (N := 63) ?hd (xs := ([(⟨(⟨((rd_T45 l0 x13_1).f0), ((rd_T45 l0 x13_1).f1), ((rd_T45 l0 x13_1).f2), ((rd_T45 l0 x13_1).f3), ((rd_T45 l0 x13_1).f4), ((rd_T45 l0 x13_1).f5), ((rd_T45 l0 x13_1).f6), ((rd_T45 l0 x13_1).f7), ((rd_T45 l0 x13_1).f8)⟩ : S45), (⟨x146009_3, x146010_3, x146011_3, x146012_3⟩ : S70), x146013_3⟩ : S72)] : List (S72))) (inner := [.int .i64 ((rd_T45 l0 x13_1).f0), .int .i64 ((rd_T45 l0 x13_1).f1), .int .i64 ((rd_T45 l0 x13_1).f2), .int .i64 ((rd_T45 l0 x13_1).f3), .int .i64 ((rd_T45 l0 x13_1).f4), .int .i64 ((rd_T45 l0 x13_1).f5), .int .i64 ((rd_T45 l0 x13_1).f6), .int .i64 ((rd_T45 l0 x13_1).f7), .string ((rd_T45 l0 x13_1).f8), .int .i64 x146009_3, .int .i64 x146010_3, .int .i64 x146011_3, .int .i64 x146012_3, .int .i64 x146013_3]) (ok := fun _ => True) (okp := fun _ => True) ?hr ?hp (fun _ hk => hk) trivial (Below.refl _ _) (Nat.le_refl _) (by simp) ?_; (case hd => rfl); (case hg => rfl); (case hr => first | (go_simp; done) | (go_simp; rfl)); (case hp => exact (Reps.front (show Kd.M k72 _ _ _ (⟨(⟨((rd_T45 l0 x13_1).f0), ((rd_T45 l0 x13_1).f1), ((rd_T45 l0 x13_1).f2), ((rd_T45 l0 x13_1).f3), ((rd_T45 l0 x13_1).f4), ((rd_T45 l0 x13_1).f5), ((rd_T45 l0 x13_1).f6), ((rd_T45 l0 x13_1).f7), ((rd_T45 l0 x13_1).f8)⟩ : S45), (⟨x146009_3, x146010_3, x146011_3, x146012_3⟩ : S70), x146013_3⟩ : S72) [.int .i64 ((rd_T45 l0 x13_1).f0), .int .i64 ((rd_T45 l0 x13_1).f1), .int .i64 ((rd_T45 l0 x13_1).f2), .int .i64 ((rd_T45 l0 x13_1).f3), .int .i64 ((rd_T45 l0 x13_1).f4), .int .i64 ((rd_T45 l0 x13_1).f5), .int .i64 ((rd_T45 l0 x13_1).f6), .int .i64 ((rd_T45 l0 x13_1).f7), .string ((rd_T45 l0 x13_1).f8), .int .i64 x146009_3, .int .i64 x146010_3, .int .i64 x146011_3, .int .i64 x146012_3, .int .i64 x146013_3] from (k72_mkM _ _ _ (⟨(⟨((rd_T45 l0 x13_1).f0), ((rd_T45 l0 x13_1).f1), ((rd_T45 l0 x13_1).f2), ((rd_T45 l0 x13_1).f3), ((rd_T45 l0 x13_1).f4), ((rd_T45 l0 x13_1).f5), ((rd_T45 l0 x13_1).f6), ((rd_T45 l0 x13_1).f7), ((rd_T45 l0 x13_1).f8)⟩ : S45), (⟨x146009_3, x146010_3, x146011_3, x146012_3⟩ : S70), x146013_3⟩ : S72) )) rfl (Reps.none _ _) rfl)); intro v147 w46 ho47 hb hg_ hnew_; clear hg_ hnew_; (first | rw [← Ny146.out] at ho47 | (simp only [Int.reduceToNat] at ho47; rw [← Ny146.out] at ho47)); have n0_ := Aside0.mk (Kd.R_below (by (with_reducible repeat (first | apply Kd.R_alloc | apply Kd.R_drewN | apply Kd.R_drew)); exact HO_4.out) hb); have n1_ := Aside0.mk (Kd.R_elder' (by (with_reducible repeat (first | apply Kd.R_alloc | apply Kd.R_drewN | apply Kd.R_drew)); exact HO_5.out) (Kd.R_base ho47) hb); have n2_ := Aside0.mk (Kd.R_below (by (with_reducible repeat (first | apply Kd.R_alloc | apply Kd.R_drewN | apply Kd.R_drew)); exact HO_25.out) hb); have n3_ := Aside0.mk (Kd.R_lower (Kd.R_newB (Kd.R_new' ho47 (Kd.R_lt (by (with_reducible repeat (first | apply Kd.R_alloc | apply Kd.R_drewN | apply Kd.R_drew)); exact HO_5.out))) (g := gb145) (o := .cells #[.int .i64 ((rd_T45 l0 x13_1).f0), .int .i64 ((rd_T45 l0 x13_1).f1), .int .i64 ((rd_T45 l0 x13_1).f2), .int .i64 ((rd_T45 l0 x13_1).f3), .int .i64 ((rd_T45 l0 x13_1).f4), .int .i64 ((rd_T45 l0 x13_1).f5), .int .i64 ((rd_T45 l0 x13_1).f6), .int .i64 ((rd_T45 l0 x13_1).f7), .string ((rd_T45 l0 x13_1).f8), .int .i64 x146009_3, .int .i64 x146010_3, .int .i64 x146011_3, .int .i64 x146012_3, .int .i64 x146013_3] 72 (0, 0)) (by (with_reducible repeat (first | refine blk_drewN ?_ _ | refine blk_drew ?_ | refine blk_alloc ?_ _)); exact BK145.out)) (below_size (by repeat (first | (with_reducible first | exact HB.out | apply below_alloc | apply pw_below_drewN | apply below_drew1 | refine below_set ?_ GE144.out | refine below_set ?_ GE145.out) | exact HB.out)))); have n4_ := Aside0.mk (blk_below (g := gb144) (o := .cells #[.int .i64 ((rd_T45 l0 x13_1).f0), .int .i64 ((rd_T45 l0 x13_1).f1), .int .i64 ((rd_T45 l0 x13_1).f2), .int .i64 ((rd_T45 l0 x13_1).f3), .int .i64 ((rd_T45 l0 x13_1).f4), .int .i64 ((rd_T45 l0 x13_1).f5), .int .i64 ((rd_T45 l0 x13_1).f6), .int .i64 ((rd_T45 l0 x13_1).f7), .string ((rd_T45 l0 x13_1).f8)] 45 (0, 0)) (by (with_reducible repeat (first | refine blk_drewN ?_ _ | refine blk_drew ?_ | refine blk_alloc ?_ _)); exact BK144.out) hb); have n5_ := Aside0.mk (blk_below (g := gb145) (o := .cells #[.int .i64 ((rd_T45 l0 x13_1).f0), .int .i64 ((rd_T45 l0 x13_1).f1), .int .i64 ((rd_T45 l0 x13_1).f2), .int .i64 ((rd_T45 l0 x13_1).f3), .int .i64 ((rd_T45 l0 x13_1).f4), .int .i64 ((rd_T45 l0 x13_1).f5), .int .i64 ((rd_T45 l0 x13_1).f6), .int .i64 ((rd_T45 l0 x13_1).f7), .string ((rd_T45 l0 x13_1).f8), .int .i64 x146009_3, .int .i64 x146010_3, .int .i64 x146011_3, .int .i64 x146012_3, .int .i64 x146013_3] 72 (0, 0)) (by (with_reducible repeat (first | refine blk_drewN ?_ _ | refine blk_drew ?_ | refine blk_alloc ?_ _)); exact BK145.out) hb); have n6_ := Aside0.mk (below_step (by repeat (first | (with_reducible first | exact HB.out | apply below_alloc | apply pw_below_drewN | apply below_drew1 | refine below_set ?_ GE144.out | refine below_set ?_ GE145.out) | exact HB.out)) hb); clear HO_4; clear HO_5; clear HO_25; clear BK144; clear BK145; clear HB; have HO_4 := n0_; have HO_5 := n1_; have HO_25 := n2_; have HO148 := n3_; have BK144 := n4_; have BK145 := n5_; have HB := n6_; clear n0_ n1_ n2_ n3_ n4_ n5_ n6_; clear hb ho47; obtain ⟨Ao49, co49, eo49⟩ := Kd.R_slice HO148.out; subst eo49) | ((with_reducible refine gate_builtin (b := .append) (xs := #[.tmp 61, .tmp 63]) rfl ?_); at_builtin; refine Kd.R_append_rows k72 (w0 := w) w.heap.size rfl (.tmp 61) (.tmp 63) 64 72 (.agg #[(.int .i64 0), (.int .i64 0), (.int .i64 0), (.int .i64 0), (.int .i64 0), (.int .i64 0), (.int .i64 0), (.int .i64 0), (.string ⟨#[]⟩), (.int .i64 0), (.int .i64 0), (.int .i64 0), (.int .i64 0), (.int .i64 0)]) 120 rfl Try.underlying64 info72 rfl (by decide) (by omega) u5 x5_1 y146 _ _ _ (fun k_ => some k_ ≠ (.slice Ao49 y146.length co49 : Value).ownBlock ∧ k_ ≠ gb145) (fun _ => False) rfl rfl ?aO ?aR (fun _ _ h => h) (fun _ h => h.elim) ?aF ?aB ?aS ?aL ?_; (case aR => repeat (first | exact (Kd.R_reads' HO148.out).2.2 | (with_reducible refine Kd.C_alloc ?_ _) | (with_reducible refine Kd.C_drewN ?_ _) | (with_reducible refine Kd.C_drew ?_))); (case aB => exact (by repeat (first | (with_reducible first | exact HB.out | apply below_alloc | apply pw_below_drewN | apply below_drew1 | refine below_set ?_ GE144.out | refine below_set ?_ GE145.out) | exact HB.out))); (case aF => exact (fun k_ hk => ⟨Kd.fresh' (Kd.R_lt (by (with_reducible repeat (first | apply Kd.R_alloc | apply Kd.R_drewN | apply Kd.R_drew)); exact HO148.out)) k_ hk, Kd.freshB (g := gb145) (o := .cells #[.int .i64 ((rd_T45 l0 x13_1).f0), .int .i64 ((rd_T45 l0 x13_1).f1), .int .i64 ((rd_T45 l0 x13_1).f2), .int .i64 ((rd_T45 l0 x13_1).f3), .int .i64 ((rd_T45 l0 x13_1).f4), .int .i64 ((rd_T45 l0 x13_1).f5), .int .i64 ((rd_T45 l0 x13_1).f6), .int .i64 ((rd_T45 l0 x13_1).f7), .string ((rd_T45 l0 x13_1).f8), .int .i64 x146009_3, .int .i64 x146010_3, .int .i64 x146011_3, .int .i64 x146012_3, .int .i64 x146013_3] 72 (0, 0)) (by (with_reducible repeat (first | refine blk_drewN ?_ _ | refine blk_drew ?_ | refine blk_alloc ?_ _)); exact BK145.out) k_ hk⟩)); (case aO => exact (by (with_reducible repeat (first | apply Kd.R_alloc | apply Kd.R_drewN | apply Kd.R_drew)); exact Kd.R_mono HO_5.out (fun _ hk => ⟨hk.2, hk.1⟩))); (case aS => exact (below_size (by repeat (first | (with_reducible first | exact HB.out | apply below_alloc | apply pw_below_drewN | apply below_drew1 | refine below_set ?_ GE144.out | refine below_set ?_ GE145.out) | exact HB.out)))); (case aL => have := LMc43.out; omega); intro v150 w48 ho hb hg hat; rw [← Ny149.out] at ho; have n0_ := Aside0.mk (Kd.R_over' (by (with_reducible repeat (first | apply Kd.R_alloc | apply Kd.R_drewN | apply Kd.R_drew)); exact HO_4.out) (Kd.R_typed (by (with_reducible repeat (first | apply Kd.R_alloc | apply Kd.R_drewN | apply Kd.R_drew)); exact HO_5.out)) (by decide) hg); have n1_ := Aside0.mk (Kd.R_over' (by (with_reducible repeat (first | apply Kd.R_alloc | apply Kd.R_drewN | apply Kd.R_drew)); exact HO_25.out) (Kd.R_typed (by (with_reducible repeat (first | apply Kd.R_alloc | apply Kd.R_drewN | apply Kd.R_drew)); exact HO_5.out)) (by decide) hg); have n2_ := Aside0.mk (blk_grown (g := gb144) (o := .cells #[.int .i64 ((rd_T45 l0 x13_1).f0), .int .i64 ((rd_T45 l0 x13_1).f1), .int .i64 ((rd_T45 l0 x13_1).f2), .int .i64 ((rd_T45 l0 x13_1).f3), .int .i64 ((rd_T45 l0 x13_1).f4), .int .i64 ((rd_T45 l0 x13_1).f5), .int .i64 ((rd_T45 l0 x13_1).f6), .int .i64 ((rd_T45 l0 x13_1).f7), .string ((rd_T45 l0 x13_1).f8)] 45 (0, 0)) (by (with_reducible repeat (first | refine blk_drewN ?_ _ | refine blk_drew ?_ | refine blk_alloc ?_ _)); exact BK144.out) hg (Kd.R_ne HO_5.out BK144.out (by decide))); have n3_ := Aside0.mk (blk_grown (g := gb145) (o := .cells #[.int .i64 ((rd_T45 l0 x13_1).f0), .int .i64 ((rd_T45 l0 x13_1).f1), .int .i64 ((rd_T45 l0 x13_1).f2), .int .i64 ((rd_T45 l0 x13_1).f3), .int .i64 ((rd_T45 l0 x13_1).f4), .int .i64 ((rd_T45 l0 x13_1).f5), .int .i64 ((rd_T45 l0 x13_1).f6), .int .i64 ((rd_T45 l0 x13_1).f7), .string ((rd_T45 l0 x13_1).f8), .int .i64 x146009_3, .int .i64 x146010_3, .int .i64 x146011_3, .int .i64 x146012_3, .int .i64 x146013_3] 72 (0, 0)) (by (with_reducible repeat (first | refine blk_drewN ?_ _ | refine blk_drew ?_ | refine blk_alloc ?_ _)); exact BK145.out) hg (Kd.R_away HO_5.out (fun _ hk => hk.1))); have n4_ := Aside0.mk (Kd.R_after (ok := (fun k_ => k_ ≠ gb145)) (by (with_reducible repeat (first | apply Kd.R_alloc | apply Kd.R_drewN | apply Kd.R_drew)); exact Kd.R_mono HO148.out (fun _ hk => ⟨hk.2, hk.1.2⟩)) hg hat); have n5_ := Aside0.mk (hb); have n6_ := Aside0.mk (ho); clear HO_4; clear HO_25; clear BK144; clear BK145; clear HO148; clear HB; clear HO_5; have HO_4 := n0_; have HO_25 := n1_; have BK144 := n2_; have BK145 := n3_; have HO148 := n4_; have HB := n5_; have HO151 := n6_; clear n0_ n1_ n2_ n3_ n4_ n5_ n6_; clear ho hb hg hat))
                          go_roundg k3
                          case measure => have := HK1.out; have := HJ4.out; have := HK3.out; omega
                          case rel => exact ⟨(x4_1), (y149), (wrap64 (x13_1 + 1)), (by first | rfl | (simp; done) | (simp [*]; done)), H', ⟨by have := HK1.out; have := HJ4.out; have := HK3.out; omega⟩, ⟨by (with_reducible repeat (first | apply Kd.R_alloc | apply Kd.R_drewN | apply Kd.R_drew)); exact Kd.R_mono HO_4.out (fun _ hk => trivial)⟩, ⟨by (with_reducible repeat (first | apply Kd.R_alloc | apply Kd.R_drewN | apply Kd.R_drew)); exact Kd.R_mono HO151.out (fun _ hk => trivial)⟩, ⟨by repeat (first | (with_reducible first | exact HB.out | apply below_alloc | apply pw_below_drewN | apply below_drew1 | refine below_set ?_ GE144.out | refine below_set ?_ GE145.out) | exact HB.out)⟩⟩
                        · rw [if_neg c43] at H
                          exact absurd H (by simp)
                · replace c9 := Bool.eq_false_iff.mpr c9
                  subst c9
                  have H1 : (if ((rd_T45 l0 x13_1).f0) = 3 then (clerestoryref3_Flat.j3 kj4 x4_1 x5_1 l0 (l0.length : Int) x13_1 ((rd_T45 l0 x13_1).f0) (((rd_T45 l0 x13_1).f0) == 3) ((rd_T45 l0 x13_1).f0) ((rd_T45 l0 x13_1).f1) ((rd_T45 l0 x13_1).f2) ((rd_T45 l0 x13_1).f3) ((rd_T45 l0 x13_1).f4) ((rd_T45 l0 x13_1).f5) ((rd_T45 l0 x13_1).f6) ((rd_T45 l0 x13_1).f7) ((rd_T45 l0 x13_1).f8)) else (clerestoryref3_Flat.j3 kj4 x4_1 x5_1 l0 (l0.length : Int) x13_1 ((rd_T45 l0 x13_1).f0) (((rd_T45 l0 x13_1).f0) == 4) ((rd_T45 l0 x13_1).f0) ((rd_T45 l0 x13_1).f1) ((rd_T45 l0 x13_1).f2) ((rd_T45 l0 x13_1).f3) ((rd_T45 l0 x13_1).f4) ((rd_T45 l0 x13_1).f5) ((rd_T45 l0 x13_1).f6) ((rd_T45 l0 x13_1).f7) ((rd_T45 l0 x13_1).f8))) = some (r1, r2) := by rw [if_neg (show ¬ (false = true) by decide)] at H; exact H
                  clear H
                  have H := H1
                  clear H1
                  have HC50 := Aside0.mk H
                  clear H
                  go_upto_if 65 with (fail)
                  go_cut [65] (fun v65 wc => ∃ (kq : Nat) (x65_49 : Bool), v65 = .bool x65_49 ∧ Aside0 (clerestoryref3_Flat.j3 kq x4_1 x5_1 l0 (l0.length : Int) x13_1 ((rd_T45 l0 x13_1).f0) x65_49 ((rd_T45 l0 x13_1).f0) ((rd_T45 l0 x13_1).f1) ((rd_T45 l0 x13_1).f2) ((rd_T45 l0 x13_1).f3) ((rd_T45 l0 x13_1).f4) ((rd_T45 l0 x13_1).f5) ((rd_T45 l0 x13_1).f6) ((rd_T45 l0 x13_1).f7) ((rd_T45 l0 x13_1).f8) = some (r1, r2)) ∧ Aside0 (kq ≤ kj4) ∧ Aside0 (Kd.R k45 45 wc w.heap.size (fun k_ => k_ ≠ gb144) u4 x4_1) ∧ Aside0 (Kd.R k72 72 wc w.heap.size (fun _ => True) u5 x5_1) ∧ Aside0 (wc.heap[gb144]? = some (.cells #[.int .i64 ((rd_T45 l0 x13_1).f0), .int .i64 ((rd_T45 l0 x13_1).f1), .int .i64 ((rd_T45 l0 x13_1).f2), .int .i64 ((rd_T45 l0 x13_1).f3), .int .i64 ((rd_T45 l0 x13_1).f4), .int .i64 ((rd_T45 l0 x13_1).f5), .int .i64 ((rd_T45 l0 x13_1).f6), .int .i64 ((rd_T45 l0 x13_1).f7), .string ((rd_T45 l0 x13_1).f8)] 45 (0, 0))) ∧ Aside0 (Below w.heap.size w wc))
                  case first =>
                    have H := HC50.out
                    clear HC50
                    by_cases c51 : ((rd_T45 l0 x13_1).f0) = 3
                    · rw [if_pos c51] at H
                      have c51b0 : (((rd_T45 l0 x13_1).f0) == 3) = true := beq_iff_eq.mpr c51
                      have c51b1 : (((rd_T45 l0 x13_1).f0) != 3) = false := bne_eq_false_iff_eq.mpr c51
                      clear c51
                      (first | rw [c51b0] | (simp only [i64_w, i32_w]; rw [c51b0]) | skip)
                      have H' := Aside0.mk H
                      clear H
                      go_wp2
                      go_meet
                      case rel => exact ⟨_, ((((rd_T45 l0 x13_1).f0) == 3)), (by first | rfl | (simp; done) | (simp [*]; done)), H', ⟨by have := HK1.out; have := HJ4.out; first | omega | exact Nat.le_refl _⟩, ⟨by (with_reducible repeat (first | apply Kd.R_alloc | apply Kd.R_drewN | apply Kd.R_drew)); exact HO_4.out⟩, ⟨by (with_reducible repeat (first | apply Kd.R_alloc | apply Kd.R_drewN | apply Kd.R_drew)); exact HO_5.out⟩, ⟨by (with_reducible repeat (first | refine blk_drewN ?_ _ | refine blk_drew ?_ | refine blk_alloc ?_ _)); exact BK144.out⟩, ⟨by repeat (first | (with_reducible first | exact HB.out | apply below_alloc | apply pw_below_drewN | apply below_drew1 | refine below_set ?_ GE144.out) | exact HB.out)⟩⟩
                    · rw [if_neg c51] at H
                      have c51b0 : (((rd_T45 l0 x13_1).f0) == 3) = false := beq_eq_false_iff_ne.mpr c51
                      have c51b1 : (((rd_T45 l0 x13_1).f0) != 3) = true := bne_iff_ne.mpr c51
                      (first | rw [c51b0] | (simp only [i64_w, i32_w]; rw [c51b0]) | skip)
                      have H' := Aside0.mk H
                      clear H
                      go_wp2
                      go_meet
                      case rel => exact ⟨_, ((((rd_T45 l0 x13_1).f0) == 4)), (by first | rfl | (simp; done) | (simp [*]; done)), H', ⟨by have := HK1.out; have := HJ4.out; first | omega | exact Nat.le_refl _⟩, ⟨by (with_reducible repeat (first | apply Kd.R_alloc | apply Kd.R_drewN | apply Kd.R_drew)); exact HO_4.out⟩, ⟨by (with_reducible repeat (first | apply Kd.R_alloc | apply Kd.R_drewN | apply Kd.R_drew)); exact HO_5.out⟩, ⟨by (with_reducible repeat (first | refine blk_drewN ?_ _ | refine blk_drew ?_ | refine blk_alloc ?_ _)); exact BK144.out⟩, ⟨by repeat (first | (with_reducible first | exact HB.out | apply below_alloc | apply pw_below_drewN | apply below_drew1 | refine below_set ?_ GE144.out) | exact HB.out)⟩⟩
                  case rest =>
                    clear HC50
                    try clear c1
                    try clear p1
                    try clear q1
                    try clear hx1
                    try clear c2
                    try clear c2b0
                    try clear p2
                    try clear c3
                    try clear c3b0
                    try clear c4
                    try clear c4b0
                    try clear c5
                    try clear p6
                    try clear c8
                    try clear c8b0
                    try clear c8b1
                    try clear c9
                    try clear c12
                    try clear p14
                    try clear q14
                    try clear hx14
                    try clear c15
                    try clear c15b0
                    try clear p15
                    try clear q15
                    try clear hx15
                    try clear c16
                    try clear c16b0
                    try clear c17
                    try clear c17b0
                    try clear c18
                    try clear c18b0
                    try clear c18b1
                    try clear c21
                    try clear c25
                    try clear c26
                    try clear c38
                    try clear c39
                    try clear c41
                    try clear c43
                    try clear c44
                    try clear c51
                    try clear c51b0
                    try clear c51b1
                    try clear hcz10_0
                    try clear hcz10_1
                    try clear hcz10_2
                    try clear hcz10_3
                    try clear hcz10_4
                    try clear hcz10_5
                    try clear hcz10_6
                    try clear hcz10_7
                    try clear hcz10_8
                    try clear hcz13_0
                    try clear hcz13_1
                    try clear hcz13_10
                    try clear hcz13_11
                    try clear hcz13_12
                    try clear hcz13_13
                    try clear hcz13_2
                    try clear hcz13_3
                    try clear hcz13_4
                    try clear hcz13_5
                    try clear hcz13_6
                    try clear hcz13_7
                    try clear hcz13_8
                    try clear hcz13_9
                    try clear hcz27_0
                    try clear hcz27_1
                    try clear hcz27_2
                    try clear hcz27_3
                    try clear hcz27_4
                    try clear hcz27_5
                    try clear hcz27_6
                    try clear hcz27_7
                    try clear hcz27_8
                    try clear hcz40_0
                    try clear hcz40_1
                    try clear hcz40_2
                    try clear hcz40_3
                    try clear hcz40_4
                    try clear hcz40_5
                    try clear hcz40_6
                    try clear hcz40_7
                    try clear hcz40_8
                    try clear hcz42_0
                    try clear hcz42_1
                    try clear hcz42_10
                    try clear hcz42_11
                    try clear hcz42_12
                    try clear hcz42_13
                    try clear hcz42_2
                    try clear hcz42_3
                    try clear hcz42_4
                    try clear hcz42_5
                    try clear hcz42_6
                    try clear hcz42_7
                    try clear hcz42_8
                    try clear hcz42_9
                    try clear hcz45_0
                    try clear hcz45_1
                    try clear hcz45_10
                    try clear hcz45_11
                    try clear hcz45_12
                    try clear hcz45_13
                    try clear hcz45_2
                    try clear hcz45_3
                    try clear hcz45_4
                    try clear hcz45_5
                    try clear hcz45_6
                    try clear hcz45_7
                    try clear hcz45_8
                    try clear hcz45_9
                    try clear hcz7_0
                    try clear hcz7_1
                    try clear hcz7_2
                    try clear hcz7_3
                    try clear hcz7_4
                    try clear hcz7_5
                    try clear hcz7_6
                    try clear hcz7_7
                    try clear hcz7_8
                    try clear hfz10_0
                    try clear hfz10_1
                    try clear hfz10_2
                    try clear hfz10_3
                    try clear hfz10_4
                    try clear hfz10_5
                    try clear hfz10_6
                    try clear hfz10_7
                    try clear hfz10_8
                    try clear hfz13_0
                    try clear hfz13_1
                    try clear hfz13_10
                    try clear hfz13_11
                    try clear hfz13_12
                    try clear hfz13_13
                    try clear hfz13_2
                    try clear hfz13_3
                    try clear hfz13_4
                    try clear hfz13_5
                    try clear hfz13_6
                    try clear hfz13_7
                    try clear hfz13_8
                    try clear hfz13_9
                    try clear hfz27_0
                    try clear hfz27_1
                    try clear hfz27_2
                    try clear hfz27_3
                    try clear hfz27_4
                    try clear hfz27_5
                    try clear hfz27_6
                    try clear hfz27_7
                    try clear hfz27_8
                    try clear hfz40_0
                    try clear hfz40_1
                    try clear hfz40_2
                    try clear hfz40_3
                    try clear hfz40_4
                    try clear hfz40_5
                    try clear hfz40_6
                    try clear hfz40_7
                    try clear hfz40_8
                    try clear hfz42_0
                    try clear hfz42_1
                    try clear hfz42_10
                    try clear hfz42_11
                    try clear hfz42_12
                    try clear hfz42_13
                    try clear hfz42_2
                    try clear hfz42_3
                    try clear hfz42_4
                    try clear hfz42_5
                    try clear hfz42_6
                    try clear hfz42_7
                    try clear hfz42_8
                    try clear hfz42_9
                    try clear hfz45_0
                    try clear hfz45_1
                    try clear hfz45_10
                    try clear hfz45_11
                    try clear hfz45_12
                    try clear hfz45_13
                    try clear hfz45_2
                    try clear hfz45_3
                    try clear hfz45_4
                    try clear hfz45_5
                    try clear hfz45_6
                    try clear hfz45_7
                    try clear hfz45_8
                    try clear hfz45_9
                    try clear hfz7_0
                    try clear hfz7_1
                    try clear hfz7_2
                    try clear hfz7_3
                    try clear hfz7_4
                    try clear hfz7_5
                    try clear hfz7_6
                    try clear hfz7_7
                    try clear hfz7_8
                    try clear hx143_0
                    try clear hx143_1
                    try clear hx143_2
                    try clear hx143_3
                    try clear hx143_4
                    try clear hx143_5
                    try clear hx143_6
                    try clear hx143_7
                    try clear hx143_8
                    try clear hx152_0
                    try clear hx152_1
                    try clear hx152_2
                    try clear hx152_3
                    try clear hx152_4
                    try clear hx152_5
                    try clear hx152_6
                    try clear hx152_7
                    try clear hx152_8
                    try clear p1
                    try clear p14
                    try clear p143
                    try clear p152
                    try clear p2
                    try clear q1
                    try clear q14
                    try clear q143
                    try clear q152
                    obtain ⟨kq, x65_49, rfl, HA, HJ49, HO_4, HO_5, BK144, HB⟩ := hcut
                    cases kq with
                    | zero => exact absurd HA.out (by simp [clerestoryref3_Flat.j3])
                    | succ kj49 =>
                      have H := HA.out
                      clear HA
                      simp only [clerestoryref3_Flat.j3] at H
                      by_cases c52 : x65_49 = true
                      · subst c52
                        have H1 : ((api_Cmd.f x4_1).bind fun t162 => ((some (([(⟨((rd_T45 l0 x13_1).f0), ((rd_T45 l0 x13_1).f1), ((rd_T45 l0 x13_1).f2), ((rd_T45 l0 x13_1).f3), ((rd_T45 l0 x13_1).f4), ((rd_T45 l0 x13_1).f5), ((rd_T45 l0 x13_1).f6), ((rd_T45 l0 x13_1).f7), ((rd_T45 l0 x13_1).f8)⟩ : S45)] : List (S45)) : List (S45))).bind fun y165 => (if t162.length + y165.length < 1759218604441 then (clerestoryref3_Flat.l0 kj49 (t162 ++ y165) x5_1 l0 (l0.length : Int) (wrap64 (x13_1 + 1))) else (none)))) = some (r1, r2) := by rw [if_pos rfl] at H; exact H
                        clear H
                        have H := H1
                        clear H1
                        replace H := Option.bind_eq_some_iff.mp H
                        obtain ⟨t162, A530, H⟩ := H
                        replace H : ((some (([(⟨((rd_T45 l0 x13_1).f0), ((rd_T45 l0 x13_1).f1), ((rd_T45 l0 x13_1).f2), ((rd_T45 l0 x13_1).f3), ((rd_T45 l0 x13_1).f4), ((rd_T45 l0 x13_1).f5), ((rd_T45 l0 x13_1).f6), ((rd_T45 l0 x13_1).f7), ((rd_T45 l0 x13_1).f8)⟩ : S45)] : List (S45)) : List (S45))).bind fun y165 => (if t162.length + y165.length < 1759218604441 then (clerestoryref3_Flat.l0 kj49 (t162 ++ y165) x5_1 l0 (l0.length : Int) (wrap64 (x13_1 + 1))) else (none))) = some (r1, r2) := H
                        have A53 := Aside0.mk A530
                        clear A530
                        obtain ⟨y165, hy165⟩ : ∃ y_ : List (S45), y_ = (([(⟨((rd_T45 l0 x13_1).f0), ((rd_T45 l0 x13_1).f1), ((rd_T45 l0 x13_1).f2), ((rd_T45 l0 x13_1).f3), ((rd_T45 l0 x13_1).f4), ((rd_T45 l0 x13_1).f5), ((rd_T45 l0 x13_1).f6), ((rd_T45 l0 x13_1).f7), ((rd_T45 l0 x13_1).f8)⟩ : S45)] : List (S45))) := ⟨_, rfl⟩
                        replace H : (if t162.length + y165.length < 1759218604441 then (clerestoryref3_Flat.l0 kj49 (t162 ++ y165) x5_1 l0 (l0.length : Int) (wrap64 (x13_1 + 1))) else (none)) = some (r1, r2) := by first | (rw [hy165]; with_reducible exact H) | (have H2_ := (Option.bind_some _ _).symm.trans H; rw [hy165]; with_reducible exact H2_) | (have H2_ := (Option.bind_some _ _).symm.trans H; with_reducible exact H2_) | with_reducible exact H | (rw [hy165]; exact H) | exact H
                        have Ny165 := Aside0.mk hy165
                        clear hy165
                        by_cases c54 : t162.length + y165.length < 1759218604441
                        · rw [if_pos c54] at H
                          have LMc54 := Aside0.mk c54
                          clear c54
                          obtain ⟨y168, hy168⟩ : ∃ y_ : List (S45), y_ = (t162 ++ y165) := ⟨_, rfl⟩
                          replace H : (clerestoryref3_Flat.l0 kj49 y168 x5_1 l0 (l0.length : Int) (wrap64 (x13_1 + 1))) = some (r1, r2) := by first | (rw [hy168]; with_reducible exact H) | (have H2_ := (Option.bind_some _ _).symm.trans H; rw [hy168]; with_reducible exact H2_) | (have H2_ := (Option.bind_some _ _).symm.trans H; with_reducible exact H2_) | with_reducible exact H | (rw [hy168]; exact H) | exact H
                          have Ny168 := Aside0.mk hy168
                          clear hy168
                          have H' := Aside0.mk H
                          clear H
                          obtain ⟨Ao55, co55, eo55⟩ := Kd.R_slice HO_4.out
                          subst eo55
                          try go_wp2
                          have n0_ := Aside0.mk (Kd.R_drew HO_4.out)
                          have n1_ := Aside0.mk (Kd.R_drew HO_5.out)
                          have n2_ := Aside0.mk (blk_drew BK144.out)
                          have n3_ := Aside0.mk (below_drew1 HB.out)
                          clear HO_4
                          clear HO_5
                          clear BK144
                          clear HB
                          have HO_4 := n0_
                          have HO_5 := n1_
                          have BK144 := n2_
                          have HB := n3_
                          clear n0_ n1_ n2_ n3_
                          refine start_ (n := 6) (S := fun w' => w'.cell? ⟨gb144, 0, none⟩ = some (.int .i64 ((rd_T45 l0 x13_1).f0)) ∧ w'.cell? ⟨gb144, 1, none⟩ = some (.int .i64 ((rd_T45 l0 x13_1).f1)) ∧ w'.cell? ⟨gb144, 2, none⟩ = some (.int .i64 ((rd_T45 l0 x13_1).f2)) ∧ w'.cell? ⟨gb144, 3, none⟩ = some (.int .i64 ((rd_T45 l0 x13_1).f3)) ∧ w'.cell? ⟨gb144, 4, none⟩ = some (.int .i64 ((rd_T45 l0 x13_1).f4)) ∧ w'.cell? ⟨gb144, 5, none⟩ = some (.int .i64 ((rd_T45 l0 x13_1).f5)) ∧ w'.cell? ⟨gb144, 6, none⟩ = some (.int .i64 ((rd_T45 l0 x13_1).f6)) ∧ w'.cell? ⟨gb144, 7, none⟩ = some (.int .i64 ((rd_T45 l0 x13_1).f7)) ∧ w'.cell? ⟨gb144, 8, none⟩ = some (.string ((rd_T45 l0 x13_1).f8))) (ds := []) #[false, false, false, false, false, false] (by kernel_rfl) rfl rfl ⟨(blk_cell BK144.out 0).trans rfl, (blk_cell BK144.out 1).trans rfl, (blk_cell BK144.out 2).trans rfl, (blk_cell BK144.out 3).trans rfl, (blk_cell BK144.out 4).trans rfl, (blk_cell BK144.out 5).trans rfl, (blk_cell BK144.out 6).trans rfl, (blk_cell BK144.out 7).trans rfl, (blk_cell BK144.out 8).trans rfl⟩ (fun hHeld => ?_)
                          generalize wc.drew = w56 at HO_4 HO_5 BK144 HB hHeld ⊢
                          refine pure_ (i := 0) (N := some 68) (v := ?_) (a' := ?_) #[true, false, false, false, false, false] rfl rfl (by kernel_rfl) (fun _ _ _ h => h) (Or.inl ⟨by rfl, ?_⟩) ?_ ?_
                          rotate_left
                          · intro w'
                            go_simp
                            with_reducible rfl
                          rotate_left
                          · simp only [Act.put, List.setIfInBounds_toArray, List.set_cons_zero, List.set_cons_succ, i64_w, i32_w]
                            rfl
                          refine take_ (i := 2) (N := some 70) (v := ?_) (a' := ?_) #[true, false, true, false, false, false] rfl rfl (by kernel_rfl) (fun _ _ _ h => h) (Or.inl ⟨by rfl, ?_⟩) hHeld ?_ ?_
                          rotate_left
                          · rintro w' ⟨s0, s1, s2, s3, s4, s5, s6, s7, s8⟩
                            go_simp
                            with_reducible rfl
                          rotate_left
                          · simp only [Act.put, List.setIfInBounds_toArray, List.set_cons_zero, List.set_cons_succ, i64_w, i32_w]
                            rfl
                          refine join_ (σ := Value × Value) 2 #[true, true, true, true, false, false] (fun s_ => [(69, s_.1), (71, s_.2)]) (fun s_ w' => (w'.cell? ⟨gb144, 0, none⟩ = some (.int .i64 ((rd_T45 l0 x13_1).f0)) ∧ w'.cell? ⟨gb144, 1, none⟩ = some (.int .i64 ((rd_T45 l0 x13_1).f1)) ∧ w'.cell? ⟨gb144, 2, none⟩ = some (.int .i64 ((rd_T45 l0 x13_1).f2)) ∧ w'.cell? ⟨gb144, 3, none⟩ = some (.int .i64 ((rd_T45 l0 x13_1).f3)) ∧ w'.cell? ⟨gb144, 4, none⟩ = some (.int .i64 ((rd_T45 l0 x13_1).f4)) ∧ w'.cell? ⟨gb144, 5, none⟩ = some (.int .i64 ((rd_T45 l0 x13_1).f5)) ∧ w'.cell? ⟨gb144, 6, none⟩ = some (.int .i64 ((rd_T45 l0 x13_1).f6)) ∧ w'.cell? ⟨gb144, 7, none⟩ = some (.int .i64 ((rd_T45 l0 x13_1).f7)) ∧ w'.cell? ⟨gb144, 8, none⟩ = some (.string ((rd_T45 l0 x13_1).f8))) ∧ (Kd.R k45 45 w' w.heap.size (fun k_ => some k_ ≠ (s_.2 : Value).ownBlock ∧ some k_ ≠ (.slice Ao55 x4_1.length co55 : Value).ownBlock ∧ k_ ≠ gb144) s_.1 t162) ∧ (Kd.R k45 45 w' w.heap.size (fun k_ => some k_ ≠ (s_.1 : Value).ownBlock ∧ some k_ ≠ (.slice Ao55 x4_1.length co55 : Value).ownBlock ∧ k_ ≠ gb144) s_.2 y165) ∧ (Kd.R k45 45 w' w.heap.size (fun k_ => some k_ ≠ (s_.1 : Value).ownBlock ∧ some k_ ≠ (s_.2 : Value).ownBlock ∧ k_ ≠ gb144) (.slice Ao55 x4_1.length co55) x4_1) ∧ (Kd.R k72 72 w' w.heap.size (fun _ => True) u5 x5_1) ∧ (w'.heap[gb144]? = some (.cells #[.int .i64 ((rd_T45 l0 x13_1).f0), .int .i64 ((rd_T45 l0 x13_1).f1), .int .i64 ((rd_T45 l0 x13_1).f2), .int .i64 ((rd_T45 l0 x13_1).f3), .int .i64 ((rd_T45 l0 x13_1).f4), .int .i64 ((rd_T45 l0 x13_1).f5), .int .i64 ((rd_T45 l0 x13_1).f6), .int .i64 ((rd_T45 l0 x13_1).f7), .string ((rd_T45 l0 x13_1).f8)] 45 (0, 0))) ∧ (Below w.heap.size w w')) ?_ ?_
                          rotate_left
                          · intro hCont
                            refine two_ (i := 1) (j := 3) (Ni := some 69) (Nj := some 71) #[true, true, true, false, false, false] #[true, false, true, true, false, false] rfl rfl rfl rfl (by kernel_rfl) (by decide) (by decide) (fun K hK => ?_) (fun K hK => ?_)
                            · skip
                              refine goes_ Try.func96 (by kernel_rfl) rfl #[.slice Ao55 x4_1.length co55] (by rfl) rfl rfl (by (try simp only [List.map_toArray, List.map_cons, List.map_nil]); first | done | rfl | (simp only [List.length_drop, List.length_take]; rfl)) ?_
                              with_reducible refine (api_Cmd.calls _ _ x4_1 t162 _ ?side1 ?side2 A53.out).mono ?_
                              (case side1 => repeat (first | exact (Kd.R_reads' HO_4.out).2.2 | (with_reducible refine Kd.C_alloc ?_ _) | (with_reducible refine Kd.C_drewN ?_ _) | (with_reducible refine Kd.C_drew ?_)))
                              (case side2 => exact (Kd.R_reads' HO_4.out).2.1)
                              rintro e w57 ⟨v163, rfl, ho0, hb⟩
                              refine ⟨_, rfl, ?_⟩
                              have n0_ := Aside0.mk (Kd.R_elder' (by (with_reducible repeat (first | apply Kd.R_alloc | apply Kd.R_drewN | apply Kd.R_drew)); exact HO_4.out) (Kd.R_base ho0) hb)
                              have n1_ := Aside0.mk (Kd.R_below (by (with_reducible repeat (first | apply Kd.R_alloc | apply Kd.R_drewN | apply Kd.R_drew)); exact HO_5.out) hb)
                              have n2_ := Aside0.mk (Kd.R_lower (Kd.R_newB (Kd.R_new' ho0 (Kd.R_lt (by (with_reducible repeat (first | apply Kd.R_alloc | apply Kd.R_drewN | apply Kd.R_drew)); exact HO_4.out))) (g := gb144) (o := .cells #[.int .i64 ((rd_T45 l0 x13_1).f0), .int .i64 ((rd_T45 l0 x13_1).f1), .int .i64 ((rd_T45 l0 x13_1).f2), .int .i64 ((rd_T45 l0 x13_1).f3), .int .i64 ((rd_T45 l0 x13_1).f4), .int .i64 ((rd_T45 l0 x13_1).f5), .int .i64 ((rd_T45 l0 x13_1).f6), .int .i64 ((rd_T45 l0 x13_1).f7), .string ((rd_T45 l0 x13_1).f8)] 45 (0, 0)) (by (with_reducible repeat (first | refine blk_drewN ?_ _ | refine blk_drew ?_ | refine blk_alloc ?_ _)); exact BK144.out)) (below_size (by repeat (first | (with_reducible first | exact HB.out | apply below_alloc | apply pw_below_drewN | apply below_drew1 | refine below_set ?_ GE144.out) | exact HB.out))))
                              have n3_ := Aside0.mk (blk_below (g := gb144) (o := .cells #[.int .i64 ((rd_T45 l0 x13_1).f0), .int .i64 ((rd_T45 l0 x13_1).f1), .int .i64 ((rd_T45 l0 x13_1).f2), .int .i64 ((rd_T45 l0 x13_1).f3), .int .i64 ((rd_T45 l0 x13_1).f4), .int .i64 ((rd_T45 l0 x13_1).f5), .int .i64 ((rd_T45 l0 x13_1).f6), .int .i64 ((rd_T45 l0 x13_1).f7), .string ((rd_T45 l0 x13_1).f8)] 45 (0, 0)) (by (with_reducible repeat (first | refine blk_drewN ?_ _ | refine blk_drew ?_ | refine blk_alloc ?_ _)); exact BK144.out) hb)
                              have n4_ := Aside0.mk (below_step (by repeat (first | (with_reducible first | exact HB.out | apply below_alloc | apply pw_below_drewN | apply below_drew1 | refine below_set ?_ GE144.out) | exact HB.out)) hb)
                              clear HO_4
                              clear HO_5
                              clear BK144
                              clear HB
                              have HO_4 := n0_
                              have HO_5 := n1_
                              have HO164 := n2_
                              have BK144 := n3_
                              have HB := n4_
                              clear n0_ n1_ n2_ n3_ n4_
                              (try clear hb)
                              (try clear hb2)
                              (try clear hk)
                              (try clear hi)
                              (try clear ho0)
                              refine hK.out _ _ ⟨(blk_cell BK144.out 0).trans rfl, (blk_cell BK144.out 1).trans rfl, (blk_cell BK144.out 2).trans rfl, (blk_cell BK144.out 3).trans rfl, (blk_cell BK144.out 4).trans rfl, (blk_cell BK144.out 5).trans rfl, (blk_cell BK144.out 6).trans rfl, (blk_cell BK144.out 7).trans rfl, (blk_cell BK144.out 8).trans rfl⟩ (fun hHeld => ?_)
                              clear hK K
                              refine norm_ (a' := ?_) ?_ ?_
                              rotate_left
                              · show Act.put _ (some 69) _ = _
                                simp only [Act.put, List.setIfInBounds_toArray, List.set_cons_zero, List.set_cons_succ, i64_w, i32_w]
                                rfl
                              refine one_ (i := 3) (N := some 71) #[true, true, true, true, false, false] rfl rfl (by kernel_rfl) (by decide) (fun K hK => ?_)
                              refine Kd.R_lit_step k45 _ 45 ?hg (N := 71) ?hd (xs := ([(⟨((rd_T45 l0 x13_1).f0), ((rd_T45 l0 x13_1).f1), ((rd_T45 l0 x13_1).f2), ((rd_T45 l0 x13_1).f3), ((rd_T45 l0 x13_1).f4), ((rd_T45 l0 x13_1).f5), ((rd_T45 l0 x13_1).f6), ((rd_T45 l0 x13_1).f7), ((rd_T45 l0 x13_1).f8)⟩ : S45)] : List (S45))) (inner := [.int .i64 ((rd_T45 l0 x13_1).f0), .int .i64 ((rd_T45 l0 x13_1).f1), .int .i64 ((rd_T45 l0 x13_1).f2), .int .i64 ((rd_T45 l0 x13_1).f3), .int .i64 ((rd_T45 l0 x13_1).f4), .int .i64 ((rd_T45 l0 x13_1).f5), .int .i64 ((rd_T45 l0 x13_1).f6), .int .i64 ((rd_T45 l0 x13_1).f7), .string ((rd_T45 l0 x13_1).f8)]) (ok := fun _ => True) (okp := fun _ => True) ?hr ?hp (fun _ hk => hk) trivial (Below.refl _ _) (Nat.le_refl _) (by simp) ?_; (case hd => rfl); (case hg => rfl); (case hr => first | (go_simp; done) | (go_simp; rfl)); (case hp => exact (Reps.c9 (show Kd.M k45 _ _ _ (⟨((rd_T45 l0 x13_1).f0), ((rd_T45 l0 x13_1).f1), ((rd_T45 l0 x13_1).f2), ((rd_T45 l0 x13_1).f3), ((rd_T45 l0 x13_1).f4), ((rd_T45 l0 x13_1).f5), ((rd_T45 l0 x13_1).f6), ((rd_T45 l0 x13_1).f7), ((rd_T45 l0 x13_1).f8)⟩ : S45) [.int .i64 ((rd_T45 l0 x13_1).f0), .int .i64 ((rd_T45 l0 x13_1).f1), .int .i64 ((rd_T45 l0 x13_1).f2), .int .i64 ((rd_T45 l0 x13_1).f3), .int .i64 ((rd_T45 l0 x13_1).f4), .int .i64 ((rd_T45 l0 x13_1).f5), .int .i64 ((rd_T45 l0 x13_1).f6), .int .i64 ((rd_T45 l0 x13_1).f7), .string ((rd_T45 l0 x13_1).f8)] from (k45_mkM _ _ _ (⟨((rd_T45 l0 x13_1).f0), ((rd_T45 l0 x13_1).f1), ((rd_T45 l0 x13_1).f2), ((rd_T45 l0 x13_1).f3), ((rd_T45 l0 x13_1).f4), ((rd_T45 l0 x13_1).f5), ((rd_T45 l0 x13_1).f6), ((rd_T45 l0 x13_1).f7), ((rd_T45 l0 x13_1).f8)⟩ : S45) )) (Reps.none _ _)))
                              intro v166 w58 ho59 hb hg_ hnew_
                              clear hg_ hnew_
                              (first | rw [← Ny165.out] at ho59 | (simp only [Int.reduceToNat] at ho59; rw [← Ny165.out] at ho59))
                              have n0_ := Aside0.mk (Kd.R_elder' (by (with_reducible repeat (first | apply Kd.R_alloc | apply Kd.R_drewN | apply Kd.R_drew)); exact HO_4.out) (Kd.R_base ho59) hb)
                              have n1_ := Aside0.mk (Kd.R_below (by (with_reducible repeat (first | apply Kd.R_alloc | apply Kd.R_drewN | apply Kd.R_drew)); exact HO_5.out) hb)
                              have n2_ := Aside0.mk (Kd.R_elder' (by (with_reducible repeat (first | apply Kd.R_alloc | apply Kd.R_drewN | apply Kd.R_drew)); exact HO164.out) (Kd.R_base ho59) hb)
                              have n3_ := Aside0.mk (Kd.R_lower (Kd.R_newB (Kd.R_new' (Kd.R_new' ho59 (Kd.R_lt (by (with_reducible repeat (first | apply Kd.R_alloc | apply Kd.R_drewN | apply Kd.R_drew)); exact HO_4.out))) (Kd.R_lt (by (with_reducible repeat (first | apply Kd.R_alloc | apply Kd.R_drewN | apply Kd.R_drew)); exact HO164.out))) (g := gb144) (o := .cells #[.int .i64 ((rd_T45 l0 x13_1).f0), .int .i64 ((rd_T45 l0 x13_1).f1), .int .i64 ((rd_T45 l0 x13_1).f2), .int .i64 ((rd_T45 l0 x13_1).f3), .int .i64 ((rd_T45 l0 x13_1).f4), .int .i64 ((rd_T45 l0 x13_1).f5), .int .i64 ((rd_T45 l0 x13_1).f6), .int .i64 ((rd_T45 l0 x13_1).f7), .string ((rd_T45 l0 x13_1).f8)] 45 (0, 0)) (by (with_reducible repeat (first | refine blk_drewN ?_ _ | refine blk_drew ?_ | refine blk_alloc ?_ _)); exact BK144.out)) (below_size (by repeat (first | (with_reducible first | exact HB.out | apply below_alloc | apply pw_below_drewN | apply below_drew1 | refine below_set ?_ GE144.out) | exact HB.out))))
                              have n4_ := Aside0.mk (blk_below (g := gb144) (o := .cells #[.int .i64 ((rd_T45 l0 x13_1).f0), .int .i64 ((rd_T45 l0 x13_1).f1), .int .i64 ((rd_T45 l0 x13_1).f2), .int .i64 ((rd_T45 l0 x13_1).f3), .int .i64 ((rd_T45 l0 x13_1).f4), .int .i64 ((rd_T45 l0 x13_1).f5), .int .i64 ((rd_T45 l0 x13_1).f6), .int .i64 ((rd_T45 l0 x13_1).f7), .string ((rd_T45 l0 x13_1).f8)] 45 (0, 0)) (by (with_reducible repeat (first | refine blk_drewN ?_ _ | refine blk_drew ?_ | refine blk_alloc ?_ _)); exact BK144.out) hb)
                              have n5_ := Aside0.mk (below_step (by repeat (first | (with_reducible first | exact HB.out | apply below_alloc | apply pw_below_drewN | apply below_drew1 | refine below_set ?_ GE144.out) | exact HB.out)) hb)
                              clear HO_4
                              clear HO_5
                              clear HO164
                              clear BK144
                              clear HB
                              have HO_4 := n0_
                              have HO_5 := n1_
                              have HO164 := n2_
                              have HO167 := n3_
                              have BK144 := n4_
                              have HB := n5_
                              clear n0_ n1_ n2_ n3_ n4_ n5_
                              clear hb ho59
                              refine hK.out _ _ ⟨(blk_cell BK144.out 0).trans rfl, (blk_cell BK144.out 1).trans rfl, (blk_cell BK144.out 2).trans rfl, (blk_cell BK144.out 3).trans rfl, (blk_cell BK144.out 4).trans rfl, (blk_cell BK144.out 5).trans rfl, (blk_cell BK144.out 6).trans rfl, (blk_cell BK144.out 7).trans rfl, (blk_cell BK144.out 8).trans rfl⟩ (fun hHeld => ?_)
                              clear hK K
                              refine norm_ (a' := ?_) ?_ ?_
                              rotate_left
                              · show Act.put _ (some 71) _ = _
                                simp only [Act.put, List.setIfInBounds_toArray, List.set_cons_zero, List.set_cons_succ, i64_w, i32_w]
                                rfl
                              exact norm_ (by simp only [putAll, Act.put, List.setIfInBounds_toArray, List.set_cons_zero, List.set_cons_succ]) (hCont (v163, v166) _ ⟨hHeld, (by (with_reducible repeat (first | apply Kd.R_alloc | apply Kd.R_drewN | apply Kd.R_drew)); exact Kd.R_mono HO164.out (fun _ hk => ⟨hk.2, ⟨hk.1.1.2, hk.1.2⟩⟩)), (by (with_reducible repeat (first | apply Kd.R_alloc | apply Kd.R_drewN | apply Kd.R_drew)); exact Kd.R_mono HO167.out (fun _ hk => ⟨hk.1.2, ⟨hk.1.1.2, hk.2⟩⟩)), (by (with_reducible repeat (first | apply Kd.R_alloc | apply Kd.R_drewN | apply Kd.R_drew)); exact Kd.R_mono HO_4.out (fun _ hk => ⟨hk.1.2, ⟨hk.2, hk.1.1⟩⟩)), (by (with_reducible repeat (first | apply Kd.R_alloc | apply Kd.R_drewN | apply Kd.R_drew)); exact HO_5.out), (by (with_reducible repeat (first | refine blk_drewN ?_ _ | refine blk_drew ?_ | refine blk_alloc ?_ _)); exact BK144.out), (by repeat (first | (with_reducible first | exact HB.out | apply below_alloc | apply pw_below_drewN | apply below_drew1 | refine below_set ?_ GE144.out) | exact HB.out))⟩)
                            · skip
                              refine Kd.R_lit_step k45 _ 45 ?hg (N := 71) ?hd (xs := ([(⟨((rd_T45 l0 x13_1).f0), ((rd_T45 l0 x13_1).f1), ((rd_T45 l0 x13_1).f2), ((rd_T45 l0 x13_1).f3), ((rd_T45 l0 x13_1).f4), ((rd_T45 l0 x13_1).f5), ((rd_T45 l0 x13_1).f6), ((rd_T45 l0 x13_1).f7), ((rd_T45 l0 x13_1).f8)⟩ : S45)] : List (S45))) (inner := [.int .i64 ((rd_T45 l0 x13_1).f0), .int .i64 ((rd_T45 l0 x13_1).f1), .int .i64 ((rd_T45 l0 x13_1).f2), .int .i64 ((rd_T45 l0 x13_1).f3), .int .i64 ((rd_T45 l0 x13_1).f4), .int .i64 ((rd_T45 l0 x13_1).f5), .int .i64 ((rd_T45 l0 x13_1).f6), .int .i64 ((rd_T45 l0 x13_1).f7), .string ((rd_T45 l0 x13_1).f8)]) (ok := fun _ => True) (okp := fun _ => True) ?hr ?hp (fun _ hk => hk) trivial (Below.refl _ _) (Nat.le_refl _) (by simp) ?_; (case hd => rfl); (case hg => rfl); (case hr => first | (go_simp; done) | (go_simp; rfl)); (case hp => exact (Reps.c9 (show Kd.M k45 _ _ _ (⟨((rd_T45 l0 x13_1).f0), ((rd_T45 l0 x13_1).f1), ((rd_T45 l0 x13_1).f2), ((rd_T45 l0 x13_1).f3), ((rd_T45 l0 x13_1).f4), ((rd_T45 l0 x13_1).f5), ((rd_T45 l0 x13_1).f6), ((rd_T45 l0 x13_1).f7), ((rd_T45 l0 x13_1).f8)⟩ : S45) [.int .i64 ((rd_T45 l0 x13_1).f0), .int .i64 ((rd_T45 l0 x13_1).f1), .int .i64 ((rd_T45 l0 x13_1).f2), .int .i64 ((rd_T45 l0 x13_1).f3), .int .i64 ((rd_T45 l0 x13_1).f4), .int .i64 ((rd_T45 l0 x13_1).f5), .int .i64 ((rd_T45 l0 x13_1).f6), .int .i64 ((rd_T45 l0 x13_1).f7), .string ((rd_T45 l0 x13_1).f8)] from (k45_mkM _ _ _ (⟨((rd_T45 l0 x13_1).f0), ((rd_T45 l0 x13_1).f1), ((rd_T45 l0 x13_1).f2), ((rd_T45 l0 x13_1).f3), ((rd_T45 l0 x13_1).f4), ((rd_T45 l0 x13_1).f5), ((rd_T45 l0 x13_1).f6), ((rd_T45 l0 x13_1).f7), ((rd_T45 l0 x13_1).f8)⟩ : S45) )) (Reps.none _ _)))
                              intro v166 w57 ho58 hb hg_ hnew_
                              clear hg_ hnew_
                              (first | rw [← Ny165.out] at ho58 | (simp only [Int.reduceToNat] at ho58; rw [← Ny165.out] at ho58))
                              have n0_ := Aside0.mk (Kd.R_elder' (by (with_reducible repeat (first | apply Kd.R_alloc | apply Kd.R_drewN | apply Kd.R_drew)); exact HO_4.out) (Kd.R_base ho58) hb)
                              have n1_ := Aside0.mk (Kd.R_below (by (with_reducible repeat (first | apply Kd.R_alloc | apply Kd.R_drewN | apply Kd.R_drew)); exact HO_5.out) hb)
                              have n2_ := Aside0.mk (Kd.R_lower (Kd.R_newB (Kd.R_new' ho58 (Kd.R_lt (by (with_reducible repeat (first | apply Kd.R_alloc | apply Kd.R_drewN | apply Kd.R_drew)); exact HO_4.out))) (g := gb144) (o := .cells #[.int .i64 ((rd_T45 l0 x13_1).f0), .int .i64 ((rd_T45 l0 x13_1).f1), .int .i64 ((rd_T45 l0 x13_1).f2), .int .i64 ((rd_T45 l0 x13_1).f3), .int .i64 ((rd_T45 l0 x13_1).f4), .int .i64 ((rd_T45 l0 x13_1).f5), .int .i64 ((rd_T45 l0 x13_1).f6), .int .i64 ((rd_T45 l0 x13_1).f7), .string ((rd_T45 l0 x13_1).f8)] 45 (0, 0)) (by (with_reducible repeat (first | refine blk_drewN ?_ _ | refine blk_drew ?_ | refine blk_alloc ?_ _)); exact BK144.out)) (below_size (by repeat (first | (with_reducible first | exact HB.out | apply below_alloc | apply pw_below_drewN | apply below_drew1 | refine below_set ?_ GE144.out) | exact HB.out))))
                              have n3_ := Aside0.mk (blk_below (g := gb144) (o := .cells #[.int .i64 ((rd_T45 l0 x13_1).f0), .int .i64 ((rd_T45 l0 x13_1).f1), .int .i64 ((rd_T45 l0 x13_1).f2), .int .i64 ((rd_T45 l0 x13_1).f3), .int .i64 ((rd_T45 l0 x13_1).f4), .int .i64 ((rd_T45 l0 x13_1).f5), .int .i64 ((rd_T45 l0 x13_1).f6), .int .i64 ((rd_T45 l0 x13_1).f7), .string ((rd_T45 l0 x13_1).f8)] 45 (0, 0)) (by (with_reducible repeat (first | refine blk_drewN ?_ _ | refine blk_drew ?_ | refine blk_alloc ?_ _)); exact BK144.out) hb)
                              have n4_ := Aside0.mk (below_step (by repeat (first | (with_reducible first | exact HB.out | apply below_alloc | apply pw_below_drewN | apply below_drew1 | refine below_set ?_ GE144.out) | exact HB.out)) hb)
                              clear HO_4
                              clear HO_5
                              clear BK144
                              clear HB
                              have HO_4 := n0_
                              have HO_5 := n1_
                              have HO167 := n2_
                              have BK144 := n3_
                              have HB := n4_
                              clear n0_ n1_ n2_ n3_ n4_
                              clear hb ho58
                              refine hK.out _ _ ⟨(blk_cell BK144.out 0).trans rfl, (blk_cell BK144.out 1).trans rfl, (blk_cell BK144.out 2).trans rfl, (blk_cell BK144.out 3).trans rfl, (blk_cell BK144.out 4).trans rfl, (blk_cell BK144.out 5).trans rfl, (blk_cell BK144.out 6).trans rfl, (blk_cell BK144.out 7).trans rfl, (blk_cell BK144.out 8).trans rfl⟩ (fun hHeld => ?_)
                              clear hK K
                              refine norm_ (a' := ?_) ?_ ?_
                              rotate_left
                              · show Act.put _ (some 71) _ = _
                                simp only [Act.put, List.setIfInBounds_toArray, List.set_cons_zero, List.set_cons_succ, i64_w, i32_w]
                                rfl
                              refine one_ (i := 1) (N := some 69) #[true, true, true, true, false, false] rfl rfl (by kernel_rfl) (by decide) (fun K hK => ?_)
                              refine goes_ Try.func96 (by kernel_rfl) rfl #[.slice Ao55 x4_1.length co55] (by rfl) rfl rfl (by (try simp only [List.map_toArray, List.map_cons, List.map_nil]); first | done | rfl | (simp only [List.length_drop, List.length_take]; rfl)) ?_
                              with_reducible refine (api_Cmd.calls _ _ x4_1 t162 _ ?side1 ?side2 A53.out).mono ?_
                              (case side1 => repeat (first | exact (Kd.R_reads' HO_4.out).2.2 | (with_reducible refine Kd.C_alloc ?_ _) | (with_reducible refine Kd.C_drewN ?_ _) | (with_reducible refine Kd.C_drew ?_)))
                              (case side2 => exact (Kd.R_reads' HO_4.out).2.1)
                              rintro e w59 ⟨v163, rfl, ho0, hb⟩
                              refine ⟨_, rfl, ?_⟩
                              have n0_ := Aside0.mk (Kd.R_elder' (by (with_reducible repeat (first | apply Kd.R_alloc | apply Kd.R_drewN | apply Kd.R_drew)); exact HO_4.out) (Kd.R_base ho0) hb)
                              have n1_ := Aside0.mk (Kd.R_below (by (with_reducible repeat (first | apply Kd.R_alloc | apply Kd.R_drewN | apply Kd.R_drew)); exact HO_5.out) hb)
                              have n2_ := Aside0.mk (Kd.R_elder' (by (with_reducible repeat (first | apply Kd.R_alloc | apply Kd.R_drewN | apply Kd.R_drew)); exact HO167.out) (Kd.R_base ho0) hb)
                              have n3_ := Aside0.mk (Kd.R_lower (Kd.R_newB (Kd.R_new' (Kd.R_new' ho0 (Kd.R_lt (by (with_reducible repeat (first | apply Kd.R_alloc | apply Kd.R_drewN | apply Kd.R_drew)); exact HO_4.out))) (Kd.R_lt (by (with_reducible repeat (first | apply Kd.R_alloc | apply Kd.R_drewN | apply Kd.R_drew)); exact HO167.out))) (g := gb144) (o := .cells #[.int .i64 ((rd_T45 l0 x13_1).f0), .int .i64 ((rd_T45 l0 x13_1).f1), .int .i64 ((rd_T45 l0 x13_1).f2), .int .i64 ((rd_T45 l0 x13_1).f3), .int .i64 ((rd_T45 l0 x13_1).f4), .int .i64 ((rd_T45 l0 x13_1).f5), .int .i64 ((rd_T45 l0 x13_1).f6), .int .i64 ((rd_T45 l0 x13_1).f7), .string ((rd_T45 l0 x13_1).f8)] 45 (0, 0)) (by (with_reducible repeat (first | refine blk_drewN ?_ _ | refine blk_drew ?_ | refine blk_alloc ?_ _)); exact BK144.out)) (below_size (by repeat (first | (with_reducible first | exact HB.out | apply below_alloc | apply pw_below_drewN | apply below_drew1 | refine below_set ?_ GE144.out) | exact HB.out))))
                              have n4_ := Aside0.mk (blk_below (g := gb144) (o := .cells #[.int .i64 ((rd_T45 l0 x13_1).f0), .int .i64 ((rd_T45 l0 x13_1).f1), .int .i64 ((rd_T45 l0 x13_1).f2), .int .i64 ((rd_T45 l0 x13_1).f3), .int .i64 ((rd_T45 l0 x13_1).f4), .int .i64 ((rd_T45 l0 x13_1).f5), .int .i64 ((rd_T45 l0 x13_1).f6), .int .i64 ((rd_T45 l0 x13_1).f7), .string ((rd_T45 l0 x13_1).f8)] 45 (0, 0)) (by (with_reducible repeat (first | refine blk_drewN ?_ _ | refine blk_drew ?_ | refine blk_alloc ?_ _)); exact BK144.out) hb)
                              have n5_ := Aside0.mk (below_step (by repeat (first | (with_reducible first | exact HB.out | apply below_alloc | apply pw_below_drewN | apply below_drew1 | refine below_set ?_ GE144.out) | exact HB.out)) hb)
                              clear HO_4
                              clear HO_5
                              clear HO167
                              clear BK144
                              clear HB
                              have HO_4 := n0_
                              have HO_5 := n1_
                              have HO167 := n2_
                              have HO164 := n3_
                              have BK144 := n4_
                              have HB := n5_
                              clear n0_ n1_ n2_ n3_ n4_ n5_
                              (try clear hb)
                              (try clear hb2)
                              (try clear hk)
                              (try clear hi)
                              (try clear ho0)
                              refine hK.out _ _ ⟨(blk_cell BK144.out 0).trans rfl, (blk_cell BK144.out 1).trans rfl, (blk_cell BK144.out 2).trans rfl, (blk_cell BK144.out 3).trans rfl, (blk_cell BK144.out 4).trans rfl, (blk_cell BK144.out 5).trans rfl, (blk_cell BK144.out 6).trans rfl, (blk_cell BK144.out 7).trans rfl, (blk_cell BK144.out 8).trans rfl⟩ (fun hHeld => ?_)
                              clear hK K
                              refine norm_ (a' := ?_) ?_ ?_
                              rotate_left
                              · show Act.put _ (some 69) _ = _
                                simp only [Act.put, List.setIfInBounds_toArray, List.set_cons_zero, List.set_cons_succ, i64_w, i32_w]
                                rfl
                              exact norm_ (by simp only [putAll, Act.put, List.setIfInBounds_toArray, List.set_cons_zero, List.set_cons_succ]) (hCont (v163, v166) _ ⟨hHeld, (by (with_reducible repeat (first | apply Kd.R_alloc | apply Kd.R_drewN | apply Kd.R_drew)); exact Kd.R_mono HO164.out (fun _ hk => ⟨hk.1.2, ⟨hk.1.1.2, hk.2⟩⟩)), (by (with_reducible repeat (first | apply Kd.R_alloc | apply Kd.R_drewN | apply Kd.R_drew)); exact Kd.R_mono HO167.out (fun _ hk => ⟨hk.2, ⟨hk.1.1.2, hk.1.2⟩⟩)), (by (with_reducible repeat (first | apply Kd.R_alloc | apply Kd.R_drewN | apply Kd.R_drew)); exact Kd.R_mono HO_4.out (fun _ hk => ⟨hk.2, ⟨hk.1.2, hk.1.1⟩⟩)), (by (with_reducible repeat (first | apply Kd.R_alloc | apply Kd.R_drewN | apply Kd.R_drew)); exact HO_5.out), (by (with_reducible repeat (first | refine blk_drewN ?_ _ | refine blk_drew ?_ | refine blk_alloc ?_ _)); exact BK144.out), (by repeat (first | (with_reducible first | exact HB.out | apply below_alloc | apply pw_below_drewN | apply below_drew1 | refine below_set ?_ GE144.out) | exact HB.out))⟩)
                          rintro ⟨v163, v166⟩ w60 ⟨hS_, h0_, h1_, h2_, h3_, h4_, h5_⟩
                          have n0_ : Aside0 (Kd.R k45 45 w60 w.heap.size (fun k_ => some k_ ≠ (v166 : Value).ownBlock ∧ some k_ ≠ (.slice Ao55 x4_1.length co55 : Value).ownBlock ∧ k_ ≠ gb144) v163 t162) := ⟨h0_⟩
                          have n1_ : Aside0 (Kd.R k45 45 w60 w.heap.size (fun k_ => some k_ ≠ (v163 : Value).ownBlock ∧ some k_ ≠ (.slice Ao55 x4_1.length co55 : Value).ownBlock ∧ k_ ≠ gb144) v166 y165) := ⟨h1_⟩
                          have n2_ : Aside0 (Kd.R k45 45 w60 w.heap.size (fun k_ => some k_ ≠ (v163 : Value).ownBlock ∧ some k_ ≠ (v166 : Value).ownBlock ∧ k_ ≠ gb144) (.slice Ao55 x4_1.length co55) x4_1) := ⟨h2_⟩
                          have n3_ : Aside0 (Kd.R k72 72 w60 w.heap.size (fun _ => True) u5 x5_1) := ⟨h3_⟩
                          have n4_ : Aside0 (w60.heap[gb144]? = some (.cells #[.int .i64 ((rd_T45 l0 x13_1).f0), .int .i64 ((rd_T45 l0 x13_1).f1), .int .i64 ((rd_T45 l0 x13_1).f2), .int .i64 ((rd_T45 l0 x13_1).f3), .int .i64 ((rd_T45 l0 x13_1).f4), .int .i64 ((rd_T45 l0 x13_1).f5), .int .i64 ((rd_T45 l0 x13_1).f6), .int .i64 ((rd_T45 l0 x13_1).f7), .string ((rd_T45 l0 x13_1).f8)] 45 (0, 0))) := ⟨h4_⟩
                          have n5_ : Aside0 (Below w.heap.size w w60) := ⟨h5_⟩
                          clear HO_4
                          clear HO_5
                          clear BK144
                          clear HB
                          clear h0_ h1_ h2_ h3_ h4_ h5_
                          have HO164 := n0_
                          have HO167 := n1_
                          have HO_4 := n2_
                          have HO_5 := n3_
                          have BK144 := n4_
                          have HB := n5_
                          clear n0_ n1_ n2_ n3_ n4_ n5_
                          have hHeld : w60.cell? ⟨gb144, 0, none⟩ = some (.int .i64 ((rd_T45 l0 x13_1).f0)) ∧ w60.cell? ⟨gb144, 1, none⟩ = some (.int .i64 ((rd_T45 l0 x13_1).f1)) ∧ w60.cell? ⟨gb144, 2, none⟩ = some (.int .i64 ((rd_T45 l0 x13_1).f2)) ∧ w60.cell? ⟨gb144, 3, none⟩ = some (.int .i64 ((rd_T45 l0 x13_1).f3)) ∧ w60.cell? ⟨gb144, 4, none⟩ = some (.int .i64 ((rd_T45 l0 x13_1).f4)) ∧ w60.cell? ⟨gb144, 5, none⟩ = some (.int .i64 ((rd_T45 l0 x13_1).f5)) ∧ w60.cell? ⟨gb144, 6, none⟩ = some (.int .i64 ((rd_T45 l0 x13_1).f6)) ∧ w60.cell? ⟨gb144, 7, none⟩ = some (.int .i64 ((rd_T45 l0 x13_1).f7)) ∧ w60.cell? ⟨gb144, 8, none⟩ = some (.string ((rd_T45 l0 x13_1).f8)) := hS_
                          obtain ⟨Ao62, co62, eo62⟩ := Kd.R_slice HO167.out
                          (first | subst eo62 | (injection eo62 with f1_ f2_ f3_; have f4_ := f1_.symm; have f5_ := f3_.symm; clear f1_ f2_ f3_; subst f4_; subst f5_))
                          refine norm_ (a' := ?_) ?_ ?_
                          rotate_left
                          · simp only [putAll, Act.put, List.setIfInBounds_toArray, List.set_cons_zero, List.set_cons_succ]
                            rfl
                          refine one_ (i := 4) (N := some 72) #[true, true, true, true, true, false] rfl rfl (by kernel_rfl) (by decide) (fun K hK => ?_)
                          refine Kd.R_append_rows_step k45 (w0 := w) w.heap.size (by rfl) (.tmp 69) (.tmp 71) 46 45 (.agg #[(.int .i64 0), (.int .i64 0), (.int .i64 0), (.int .i64 0), (.int .i64 0), (.int .i64 0), (.int .i64 0), (.int .i64 0), (.string ⟨#[]⟩)]) 80 rfl Try.underlying46 info45 rfl (by decide) (by omega) v163 t162 y165 _ _ _ (fun k_ => some k_ ≠ (.slice Ao55 x4_1.length co55 : Value).ownBlock ∧ some k_ ≠ (.slice Ao62 y165.length co62 : Value).ownBlock ∧ k_ ≠ gb144) (fun _ => False) rfl rfl ?aO ?aR (fun _ _ h => h) (fun _ h => h.elim) ?aF ?aB ?aS ?aL ?_
                          (case aR => repeat (first | exact (Kd.R_reads' HO167.out).2.2 | (with_reducible refine Kd.C_alloc ?_ _) | (with_reducible refine Kd.C_drewN ?_ _) | (with_reducible refine Kd.C_drew ?_)))
                          (case aB => exact (by repeat (first | (with_reducible first | exact HB.out | apply below_alloc | apply pw_below_drewN | apply below_drew1 | refine below_set ?_ GE144.out) | exact HB.out)))
                          (case aF => exact (fun k_ hk => ⟨Kd.fresh' (Kd.R_lt (by (with_reducible repeat (first | apply Kd.R_alloc | apply Kd.R_drewN | apply Kd.R_drew)); exact HO_4.out)) k_ hk, Kd.fresh' (Kd.R_lt (by (with_reducible repeat (first | apply Kd.R_alloc | apply Kd.R_drewN | apply Kd.R_drew)); exact HO167.out)) k_ hk, Kd.freshB (g := gb144) (o := .cells #[.int .i64 ((rd_T45 l0 x13_1).f0), .int .i64 ((rd_T45 l0 x13_1).f1), .int .i64 ((rd_T45 l0 x13_1).f2), .int .i64 ((rd_T45 l0 x13_1).f3), .int .i64 ((rd_T45 l0 x13_1).f4), .int .i64 ((rd_T45 l0 x13_1).f5), .int .i64 ((rd_T45 l0 x13_1).f6), .int .i64 ((rd_T45 l0 x13_1).f7), .string ((rd_T45 l0 x13_1).f8)] 45 (0, 0)) (by (with_reducible repeat (first | refine blk_drewN ?_ _ | refine blk_drew ?_ | refine blk_alloc ?_ _)); exact BK144.out) k_ hk⟩))
                          (case aO => exact (by (with_reducible repeat (first | apply Kd.R_alloc | apply Kd.R_drewN | apply Kd.R_drew)); exact Kd.R_mono HO164.out (fun _ hk => ⟨hk.2.1, ⟨hk.1, hk.2.2⟩⟩)))
                          (case aS => exact (below_size (by repeat (first | (with_reducible first | exact HB.out | apply below_alloc | apply pw_below_drewN | apply below_drew1 | refine below_set ?_ GE144.out) | exact HB.out))))
                          (case aL => have := LMc54.out; omega)
                          intro v169 w61 ho hb hg hat
                          rw [← Ny168.out] at ho
                          have n0_ := Aside0.mk (Kd.R_after (ok := (fun k_ => some k_ ≠ (.slice Ao62 y165.length co62 : Value).ownBlock ∧ k_ ≠ gb144)) (by (with_reducible repeat (first | apply Kd.R_alloc | apply Kd.R_drewN | apply Kd.R_drew)); exact Kd.R_mono HO_4.out (fun _ hk => ⟨⟨hk.2.1, hk.2.2⟩, hk.1⟩)) hg hat)
                          have n1_ := Aside0.mk (Kd.R_over' (by (with_reducible repeat (first | apply Kd.R_alloc | apply Kd.R_drewN | apply Kd.R_drew)); exact HO_5.out) (Kd.R_typed (by (with_reducible repeat (first | apply Kd.R_alloc | apply Kd.R_drewN | apply Kd.R_drew)); exact HO164.out)) (by decide) hg)
                          have n2_ := Aside0.mk (blk_grown (g := gb144) (o := .cells #[.int .i64 ((rd_T45 l0 x13_1).f0), .int .i64 ((rd_T45 l0 x13_1).f1), .int .i64 ((rd_T45 l0 x13_1).f2), .int .i64 ((rd_T45 l0 x13_1).f3), .int .i64 ((rd_T45 l0 x13_1).f4), .int .i64 ((rd_T45 l0 x13_1).f5), .int .i64 ((rd_T45 l0 x13_1).f6), .int .i64 ((rd_T45 l0 x13_1).f7), .string ((rd_T45 l0 x13_1).f8)] 45 (0, 0)) (by (with_reducible repeat (first | refine blk_drewN ?_ _ | refine blk_drew ?_ | refine blk_alloc ?_ _)); exact BK144.out) hg (Kd.R_away HO164.out (fun _ hk => hk.2.2)))
                          have n3_ := Aside0.mk (Kd.R_after (ok := (fun k_ => some k_ ≠ (.slice Ao55 x4_1.length co55 : Value).ownBlock ∧ k_ ≠ gb144)) (by (with_reducible repeat (first | apply Kd.R_alloc | apply Kd.R_drewN | apply Kd.R_drew)); exact Kd.R_mono HO167.out (fun _ hk => ⟨⟨hk.2.1, hk.2.2⟩, hk.1⟩)) hg hat)
                          have n4_ := Aside0.mk (hb)
                          have n5_ := Aside0.mk (ho)
                          clear HO_4
                          clear HO_5
                          clear BK144
                          clear HO167
                          clear HB
                          clear HO164
                          have HO_4 := n0_
                          have HO_5 := n1_
                          have BK144 := n2_
                          have HO167 := n3_
                          have HB := n4_
                          have HO170 := n5_
                          clear n0_ n1_ n2_ n3_ n4_ n5_
                          clear ho hb hg hat
                          refine hK.out _ _ ⟨(blk_cell BK144.out 0).trans rfl, (blk_cell BK144.out 1).trans rfl, (blk_cell BK144.out 2).trans rfl, (blk_cell BK144.out 3).trans rfl, (blk_cell BK144.out 4).trans rfl, (blk_cell BK144.out 5).trans rfl, (blk_cell BK144.out 6).trans rfl, (blk_cell BK144.out 7).trans rfl, (blk_cell BK144.out 8).trans rfl⟩ (fun hHeld => ?_)
                          clear hK K
                          refine norm_ (a' := ?_) ?_ ?_
                          rotate_left
                          · show Act.put _ (some 72) _ = _
                            simp only [Act.put, List.setIfInBounds_toArray, List.set_cons_zero, List.set_cons_succ, i64_w, i32_w]
                            rfl
                          refine pure_ (i := 5) (N := some 4) (v := ?_) (a' := ?_) #[true, true, true, true, true, true] rfl rfl (by kernel_rfl) (fun _ _ _ h => h) (Or.inl ⟨by rfl, ?_⟩) ?_ ?_
                          rotate_left
                          · intro w'
                            go_simp
                            with_reducible rfl
                          rotate_left
                          · simp only [Act.put, List.setIfInBounds_toArray, List.set_cons_zero, List.set_cons_succ, i64_w, i32_w]
                            rfl
                          refine done_ (by kernel_rfl) ?_
                          try go_wp2
                          go_roundg kj49
                          case measure => have := HK1.out; have := HJ4.out; have := HJ49.out; omega
                          case rel => exact ⟨(y168), (x5_1), (wrap64 (x13_1 + 1)), (by first | rfl | (simp; done) | (simp [*]; done)), H', ⟨by have := HK1.out; have := HJ4.out; have := HJ49.out; omega⟩, ⟨by (with_reducible repeat (first | apply Kd.R_alloc | apply Kd.R_drewN | apply Kd.R_drew)); exact Kd.R_mono HO170.out (fun _ hk => trivial)⟩, ⟨by (with_reducible repeat (first | apply Kd.R_alloc | apply Kd.R_drewN | apply Kd.R_drew)); exact HO_5.out⟩, ⟨by repeat (first | (with_reducible first | exact HB.out | apply below_alloc | apply pw_below_drewN | apply below_drew1 | refine below_set ?_ GE144.out) | exact HB.out)⟩⟩
                        · rw [if_neg c54] at H
                          exact absurd H (by simp)
                      · replace c52 := Bool.eq_false_iff.mpr c52
                        subst c52
                        have H1 : (if ((rd_T45 l0 x13_1).f0) = 5 then (if (x4_1.length : Int) = 0 then (some (([] : List (S72)), 3)) else (if 0 ≤ (wrap64 ((x4_1.length : Int) - 1)) then (if (wrap64 ((x4_1.length : Int) - 1)) ≤ (x4_1.length : Int) then (clerestoryref3_Flat.l0 kj49 (x4_1.take ((wrap64 ((x4_1.length : Int) - 1)) : Int).toNat) x5_1 l0 (l0.length : Int) (wrap64 (x13_1 + 1))) else (none)) else (none))) else (some (([] : List (S72)), 7))) = some (r1, r2) := by rw [if_neg (show ¬ (false = true) by decide)] at H; exact H
                        clear H
                        have H := H1
                        clear H1
                        by_cases c63 : ((rd_T45 l0 x13_1).f0) = 5
                        · rw [if_pos c63] at H
                          have c63b0 : (((rd_T45 l0 x13_1).f0) == 5) = true := beq_iff_eq.mpr c63
                          have c63b1 : (((rd_T45 l0 x13_1).f0) != 5) = false := bne_eq_false_iff_eq.mpr c63
                          clear c63
                          by_cases c64 : (x4_1.length : Int) = 0
                          · rw [if_pos c64] at H
                            have c64b0 : ((x4_1.length : Int) == 0) = true := beq_iff_eq.mpr c64
                            have c64b1 : ((x4_1.length : Int) != 0) = false := bne_eq_false_iff_eq.mpr c64
                            clear c64
                            simp only [Option.some.injEq, Prod.mk.injEq] at H
                            obtain ⟨rfl, rfl⟩ := H
                            obtain ⟨Ao65, co65, eo65⟩ := Kd.R_slice HO_4.out
                            subst eo65
                            go_wp2
                            go_ret2
                            exact ⟨_, by first | rfl | (simp [errW_none, errW_some] <;> rfl) | (simp [*, errW_none, errW_some] <;> rfl), by first | exact Kd.R_nil _ _ _ _ _ | exact Kd.N_nil _ _ _ _ _ | exact Kd.V_nil _ _ _ _ _ | exact Kd.Q_nil _ _ _ _ _ | exact Kd.S_nil _ _ _ _ _, by repeat (first | (with_reducible first | exact HB.out | apply below_alloc | apply pw_below_drewN | apply below_drew1 | refine below_set ?_ GE144.out) | exact HB.out)⟩
                          · rw [if_neg c64] at H
                            have c64b0 : ((x4_1.length : Int) == 0) = false := beq_eq_false_iff_ne.mpr c64
                            have c64b1 : ((x4_1.length : Int) != 0) = true := bne_iff_ne.mpr c64
                            have c64b2 : ¬ (x4_1 = []) := fun h_ => c64 (by rw [h_]; rfl)
                            obtain ⟨ji66, hji66⟩ : ∃ j_ : Int, (wrap64 ((x4_1.length : Int) - 1)) = j_ := ⟨_, rfl⟩
                            replace H : (if 0 ≤ (ji66) then (if (ji66) ≤ (x4_1.length : Int) then (clerestoryref3_Flat.l0 kj49 (x4_1.take ((ji66) : Int).toNat) x5_1 l0 (l0.length : Int) (wrap64 (x13_1 + 1))) else (none)) else (none)) = some (r1, r2) := by first | (rw [hji66] at H; exact H) | (simp only [hji66] at H ⊢; exact H)
                            have hji66w : (IntKind.i64.wrap ((x4_1.length : Int) - 1)) = ji66 := (i64_w _).trans hji66
                            by_cases c67 : 0 ≤ (ji66)
                            · rw [if_pos c67] at H
                              have c67b0 := eq_true c67
                              have c67b1 : decide (0 ≤ (ji66)) = true := decide_eq_true c67
                              clear c67
                              by_cases c68 : (ji66) ≤ (x4_1.length : Int)
                              · rw [if_pos c68] at H
                                have c68b0 := eq_true c68
                                have c68b1 : decide ((ji66) ≤ (x4_1.length : Int)) = true := decide_eq_true c68
                                clear c68
                                obtain ⟨y171, hy171⟩ : ∃ y_ : List (S45), y_ = (x4_1.take ((ji66) : Int).toNat) := ⟨_, rfl⟩
                                replace H : (clerestoryref3_Flat.l0 kj49 y171 x5_1 l0 (l0.length : Int) (wrap64 (x13_1 + 1))) = some (r1, r2) := by first | (rw [hy171]; with_reducible exact H) | (have H2_ := (Option.bind_some _ _).symm.trans H; rw [hy171]; with_reducible exact H2_) | (have H2_ := (Option.bind_some _ _).symm.trans H; with_reducible exact H2_) | with_reducible exact H | (rw [hy171]; exact H) | exact H
                                have Ny171 := Aside0.mk hy171
                                clear hy171
                                have H' := Aside0.mk H
                                clear H
                                obtain ⟨Ao69, co69, eo69⟩ := Kd.R_slice HO_4.out
                                subst eo69
                                have q70 : ((ji66) : Int) ≤ ((x4_1.length : Int) : Int) := of_decide_eq_true (by first | (with_reducible assumption) | assumption)
                                obtain ⟨i070, hi070, _, hsz70, _⟩ := info_parts info45
                                have hcut70 := cut_to (P := Try.prog) 46 45 .i64 Try.underlying46 hi070 Ao69 x4_1.length co69 (ji66) (of_decide_eq_true (by first | (with_reducible assumption) | assumption)) q70 (Kd.R_reads' HO_4.out).2.1
                                have hr70 := Kd.R_take (m := ((ji66) : Int).toNat) HO_4.out (by omega)
                                have hy70 : y171.length = ((ji66) : Int).toNat := (by rw [Ny171.out, List.length_take]; omega)
                                rw [← Ny171.out] at hr70
                                rw [← hy70] at hr70 hcut70
                                clear hy70 hi070 hsz70 HO_4
                                have HO173 := Aside0.mk hr70
                                clear hr70
                                replace q70 := eq_true q70
                                go_wp2
                                go_roundg kj49
                                case measure => have := HK1.out; have := HJ4.out; have := HJ49.out; omega
                                case rel => exact ⟨(y171), (x5_1), (wrap64 (x13_1 + 1)), (by first | rfl | (simp; done) | (simp [*]; done)), H', ⟨by have := HK1.out; have := HJ4.out; have := HJ49.out; omega⟩, ⟨by (with_reducible repeat (first | apply Kd.R_alloc | apply Kd.R_drewN | apply Kd.R_drew)); exact Kd.R_mono HO173.out (fun _ hk => trivial)⟩, ⟨by (with_reducible repeat (first | apply Kd.R_alloc | apply Kd.R_drewN | apply Kd.R_drew)); exact HO_5.out⟩, ⟨by repeat (first | (with_reducible first | exact HB.out | apply below_alloc | apply pw_below_drewN | apply below_drew1 | refine below_set ?_ GE144.out) | exact HB.out)⟩⟩
                              · rw [if_neg c68] at H
                                exact absurd H (by simp)
                            · rw [if_neg c67] at H
                              exact absurd H (by simp)
                        · rw [if_neg c63] at H
                          have c63b0 : (((rd_T45 l0 x13_1).f0) == 5) = false := beq_eq_false_iff_ne.mpr c63
                          have c63b1 : (((rd_T45 l0 x13_1).f0) != 5) = true := bne_iff_ne.mpr c63
                          simp only [Option.some.injEq, Prod.mk.injEq] at H
                          obtain ⟨rfl, rfl⟩ := H
                          go_wp2
                          go_ret2
                          exact ⟨_, by first | rfl | (simp [errW_none, errW_some] <;> rfl) | (simp [*, errW_none, errW_some] <;> rfl), by first | exact Kd.R_nil _ _ _ _ _ | exact Kd.N_nil _ _ _ _ _ | exact Kd.V_nil _ _ _ _ _ | exact Kd.Q_nil _ _ _ _ _ | exact Kd.S_nil _ _ _ _ _, by repeat (first | (with_reducible first | exact HB.out | apply below_alloc | apply pw_below_drewN | apply below_drew1 | refine below_set ?_ GE144.out) | exact HB.out)⟩
          · rw [if_neg c4] at H
            exact absurd H (by simp)
        · rw [if_neg c3] at H
          exact absurd H (by simp)
      · rw [if_neg c2] at H
        have c2b0 : decide (x13_1 < (l0.length : Int)) = false := decide_eq_false c2
        clear c2
        by_cases c71 : (x4_1.length : Int) > 0
        · rw [if_pos c71] at H
          have c71b0 : decide (0 < (x4_1.length : Int)) = true := decide_eq_true c71
          have c71b1 : decide (0 < x4_1.length) = true := decide_eq_true (by omega)
          clear c71
          simp only [Option.some.injEq, Prod.mk.injEq] at H
          obtain ⟨rfl, rfl⟩ := H
          obtain ⟨Ao72, co72, eo72⟩ := Kd.R_slice HO_4.out
          subst eo72
          go_wp2
          go_ret2
          exact ⟨_, by first | rfl | (simp [errW_none, errW_some] <;> rfl) | (simp [*, errW_none, errW_some] <;> rfl), by first | exact Kd.R_nil _ _ _ _ _ | exact Kd.N_nil _ _ _ _ _ | exact Kd.V_nil _ _ _ _ _ | exact Kd.Q_nil _ _ _ _ _ | exact Kd.S_nil _ _ _ _ _, by repeat (first | (with_reducible first | exact HB.out | apply below_alloc | apply pw_below_drewN | apply below_drew1) | exact HB.out)⟩
        · rw [if_neg c71] at H
          have c71b0 : decide (0 < (x4_1.length : Int)) = false := decide_eq_false c71
          have c71b1 : decide (0 < x4_1.length) = false := decide_eq_false (by omega)
          clear c71
          simp only [Option.some.injEq, Prod.mk.injEq] at H
          obtain ⟨rfl, rfl⟩ := H
          obtain ⟨Ao73, co73, eo73⟩ := Kd.R_slice HO_4.out
          subst eo73
          go_wp2
          go_ret2
          exact ⟨_, by first | rfl | (simp [errW_none, errW_some] <;> rfl) | (simp [*, errW_none, errW_some] <;> rfl), by (with_reducible repeat (first | apply Kd.R_alloc | apply Kd.R_drewN | apply Kd.R_drew)); exact HO_5.out, by repeat (first | (with_reducible first | exact HB.out | apply below_alloc | apply pw_below_drewN | apply below_drew1) | exact HB.out)⟩

end Go.Proofs.Ytaejmgdpnnhpmaa.QRasterFlat
