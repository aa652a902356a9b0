/- Printed by a turn of the kit's print over contracts proved by hand; facts added by a program of this session (patch_flat.py). -/
import Derived.Test.YtaejmgdpnnhpmaaQRasterFlatx0
import Derived.Test.YtaejmgdpnnhpmaaQRasterFlatx1
namespace Go.Proofs.Ytaejmgdpnnhpmaa.QRasterFlat
open Go.RowKit Go.Proofs.YtaejmgdpnnhpmaaW.PrintWords Go.Proofs.YtaejmgdpnnhpmaaW.PrintLast Go.Proofs.YtaejmgdpnnhpmaaW.PrintMore
attribute [local go_sem] max2_int min2_int max_two min_two max_three min_three max_four min_four   -- for this text's walks alone
set_option linter.unusedVariables false
set_option linter.unusedSimpArgs false

/-! ### raster_Flat: function 39 -/
mutual
def raster_Flat.l0 : Nat → List (S129) → List (S72) → List (S45) → Int → Int → Option ((List (S72)) × Int)
  | 0, _, _, _, _, _ => none
  | k + 1, x4, x5, x12, x13, x14 => if x14 < x13 then (if 0 ≤ x14 then (if x14 < (x12.length : Int) then (if 0 ≤ (wrap64 ((x4.length : Int) - 1)) then (if (wrap64 ((x4.length : Int) - 1)) < (x4.length : Int) then (if ((rd_T45 x12 x14).f0) = 1 then (raster_Flat.j1 k x4 x5 x12 x13 x14 ((rd_T45 x12 x14).f0) (((rd_T45 x12 x14).f0) == 1) ((rd_T45 x12 x14).f0) ((rd_T45 x12 x14).f1) ((rd_T45 x12 x14).f2) ((rd_T45 x12 x14).f3) ((rd_T45 x12 x14).f4) ((rd_T45 x12 x14).f5) ((rd_T45 x12 x14).f6) ((rd_T45 x12 x14).f7) ((rd_T45 x12 x14).f8) ((rd_T129 x4 (wrap64 ((x4.length : Int) - 1))).f0.f0) ((rd_T129 x4 (wrap64 ((x4.length : Int) - 1))).f0.f1) ((rd_T129 x4 (wrap64 ((x4.length : Int) - 1))).f0.f2) ((rd_T129 x4 (wrap64 ((x4.length : Int) - 1))).f0.f3) ((rd_T129 x4 (wrap64 ((x4.length : Int) - 1))).f1)) else (raster_Flat.j1 k x4 x5 x12 x13 x14 ((rd_T45 x12 x14).f0) (((rd_T45 x12 x14).f0) == 2) ((rd_T45 x12 x14).f0) ((rd_T45 x12 x14).f1) ((rd_T45 x12 x14).f2) ((rd_T45 x12 x14).f3) ((rd_T45 x12 x14).f4) ((rd_T45 x12 x14).f5) ((rd_T45 x12 x14).f6) ((rd_T45 x12 x14).f7) ((rd_T45 x12 x14).f8) ((rd_T129 x4 (wrap64 ((x4.length : Int) - 1))).f0.f0) ((rd_T129 x4 (wrap64 ((x4.length : Int) - 1))).f0.f1) ((rd_T129 x4 (wrap64 ((x4.length : Int) - 1))).f0.f2) ((rd_T129 x4 (wrap64 ((x4.length : Int) - 1))).f0.f3) ((rd_T129 x4 (wrap64 ((x4.length : Int) - 1))).f1))) else (none)) else (none)) else (none)) else (none)) else (if (x4.length : Int) > 1 then (some (([] : List (S72)), 3)) else (some (x5, 0)))
def raster_Flat.j1 : Nat → List (S129) → List (S72) → List (S45) → Int → Int → Int → Bool → Int → Int → Int → Int → Int → Int → Int → Int → ByteArray → Int → Int → Int → Int → Int → Option ((List (S72)) × Int)
  | 0, _, _, _, _, _, _, _, _, _, _, _, _, _, _, _, _, _, _, _, _, _ => none
  | k + 1, x4, x5, x12, x13, x14, x25, x26, x120000, x120001, x120002, x120003, x120004, x120005, x120006, x120007, x120008, x122000, x122001, x122002, x122003, x122004 => if x26 = true then (if x5.length < 1172812402961 then (raster_Flat.l0 k x4 (x5 ++ [(⟨(⟨x120000, x120001, x120002, x120003, x120004, x120005, x120006, x120007, x120008⟩ : S45), (⟨x122000, x122001, x122002, x122003⟩ : S70), x122004⟩ : S72)]) x12 x13 (wrap64 (x14 + 1))) else (none)) else (if x25 = 3 then ((raster_rect.f x120000 x120001 x120002 x120003 x120004 x120005 x120006 x120007 x120008).bind fun bt125 => ((raster_meet.f x122000 x122001 x122002 x122003 bt125.1 bt125.2.1 bt125.2.2.1 bt125.2.2.2).bind fun bt129 => (if x4.length < 3518437208883 then (raster_Flat.l0 k (x4 ++ [(⟨(⟨bt129.1, bt129.2.1, bt129.2.2.1, bt129.2.2.2⟩ : S70), x122004⟩ : S129)]) x5 x12 x13 (wrap64 (x14 + 1))) else (none)))) else (if x25 = 4 then ((raster_part.f x120007).bind fun t136 => (if x4.length < 3518437208883 then (raster_Flat.l0 k (x4 ++ [(⟨(⟨x122000, x122001, x122002, x122003⟩ : S70), wrap64 (Int.tdiv (wrap64 (x122004 * t136)) 1000)⟩ : S129)]) x5 x12 x13 (wrap64 (x14 + 1))) else (none))) else (if x25 = 5 then (if (x4.length : Int) = 1 then (some (([] : List (S72)), 3)) else (if 0 ≤ (wrap64 ((x4.length : Int) - 1)) then (if (wrap64 ((x4.length : Int) - 1)) ≤ (x4.length : Int) then (raster_Flat.l0 k (x4.take ((wrap64 ((x4.length : Int) - 1)) : Int).toNat) x5 x12 x13 (wrap64 (x14 + 1))) else (none)) else (none))) else (some (([] : List (S72)), 7)))))
end
def raster_Flat.f (k : Nat) (l0 : List (S45)) : Option ((List (S72)) × Int) := (raster_all.f).bind fun bt111 => (raster_Flat.l0 k (([(⟨(⟨bt111.1, bt111.2.1, bt111.2.2.1, bt111.2.2.2⟩ : S70), 1000⟩ : S129)] : List (S129))) ([] : List (S72)) l0 (l0.length : Int) 0)
theorem raster_Flat.mono_l : ∀ k, (∀ y0 y1 y2 y3 y4, LeO (raster_Flat.l0 k y0 y1 y2 y3 y4) (raster_Flat.l0 (k + 1) y0 y1 y2 y3 y4)) ∧ (∀ y0 y1 y2 y3 y4 y5 y6 y7 y8 y9 y10 y11 y12 y13 y14 y15 y16 y17 y18 y19 y20, LeO (raster_Flat.j1 k y0 y1 y2 y3 y4 y5 y6 y7 y8 y9 y10 y11 y12 y13 y14 y15 y16 y17 y18 y19 y20) (raster_Flat.j1 (k + 1) y0 y1 y2 y3 y4 y5 y6 y7 y8 y9 y10 y11 y12 y13 y14 y15 y16 y17 y18 y19 y20))
  | 0 => ⟨fun _ _ _ _ _ r h => by simp [raster_Flat.l0] at h, fun _ _ _ _ _ _ _ _ _ _ _ _ _ _ _ _ _ _ _ _ _ r h => by simp [raster_Flat.j1] at h⟩
  | k + 1 => by
    obtain ⟨ih0, ih1⟩ := raster_Flat.mono_l k
    refine ⟨?_, ?_⟩
    · intro y0 y1 y2 y3 y4
      unfold raster_Flat.l0
      repeat' first
      | (with_reducible exact ih0 _ _ _ _ _)
      | (with_reducible exact ih1 _ _ _ _ _ _ _ _ _ _ _ _ _ _ _ _ _ _ _ _ _)
      | (with_reducible exact LeO.refl _)
      | (with_reducible exact LeO.none _)
      | (with_reducible refine LeO.ite ?_ ?_)
      | (with_reducible refine LeO.bind ?_ (fun _ => ?_))
      | exact ih0 _ _ _ _ _
      | exact ih1 _ _ _ _ _ _ _ _ _ _ _ _ _ _ _ _ _ _ _ _ _
      | exact LeO.none _
      | refine LeO.ite ?_ ?_
      | refine LeO.bind ?_ (fun _ => ?_)
    · intro y0 y1 y2 y3 y4 y5 y6 y7 y8 y9 y10 y11 y12 y13 y14 y15 y16 y17 y18 y19 y20
      unfold raster_Flat.j1
      repeat' first
      | (with_reducible exact ih0 _ _ _ _ _)
      | (with_reducible exact ih1 _ _ _ _ _ _ _ _ _ _ _ _ _ _ _ _ _ _ _ _ _)
      | (with_reducible exact LeO.refl _)
      | (with_reducible exact LeO.none _)
      | (with_reducible refine LeO.ite ?_ ?_)
      | (with_reducible refine LeO.bind ?_ (fun _ => ?_))
      | exact ih0 _ _ _ _ _
      | exact ih1 _ _ _ _ _ _ _ _ _ _ _ _ _ _ _ _ _ _ _ _ _
      | exact LeO.none _
      | refine LeO.ite ?_ ?_
      | refine LeO.bind ?_ (fun _ => ?_)
theorem raster_Flat.mono : ∀ a0 k, LeO (raster_Flat.f k a0) (raster_Flat.f (k + 1) a0) := by
  intro a0 k
  obtain ⟨ih0, ih1⟩ := raster_Flat.mono_l k
  unfold raster_Flat.f
  repeat' first
      | (with_reducible exact ih0 _ _ _ _ _)
      | (with_reducible exact ih1 _ _ _ _ _ _ _ _ _ _ _ _ _ _ _ _ _ _ _ _ _)
      | (with_reducible exact LeO.refl _)
      | (with_reducible exact LeO.none _)
      | (with_reducible refine LeO.ite ?_ ?_)
      | (with_reducible refine LeO.bind ?_ (fun _ => ?_))
      | exact ih0 _ _ _ _ _
      | exact ih1 _ _ _ _ _ _ _ _ _ _ _ _ _ _ _ _ _ _ _ _ _
      | exact LeO.none _
      | refine LeO.ite ?_ ?_
      | refine LeO.bind ?_ (fun _ => ?_)
def raster_Flat.T13 : Bool × List (List Nat × List Nat) := (true, [([], []), ([], []), ([1], [1]), ([], []), ([3], [3]), ([2, 4, 4], [2, 4]), ([], []), ([6], [6]), ([5, 7], [5, 7]), ([8], [8]), ([0, 9, 5], [0, 9]), ([10, 10, 0, 1, 2, 3, 4, 5, 6, 7, 8, 9, 10], [0, 10])])
def raster_Flat.B13 : List Nat := [0, 0, 2, 0, 8, 30, 0, 64, 254, 510, 1023, 2047]
theorem raster_Flat.tab13 : rtab .any (opsOf Try.f39 13) = raster_Flat.T13 := by kernel_rfl
theorem raster_Flat.bits13 : waitsOk raster_Flat.T13.2 raster_Flat.B13 = true := by kernel_rfl
def raster_Flat.T15 : Bool × List (List Nat × List Nat) := (true, [([], []), ([], []), ([1], [1]), ([], []), ([3], [3]), ([], []), ([5], [5]), ([6], [6]), ([4, 7], [4, 7]), ([8], [8]), ([2, 9], [2, 9]), ([10], [10]), ([0, 11, 7], [0, 11]), ([12, 12, 0, 1, 2, 3, 4, 5, 6, 7, 8, 9, 10, 11, 12], [0, 12])])
def raster_Flat.B15 : List Nat := [0, 0, 2, 0, 8, 0, 32, 96, 248, 504, 1022, 2046, 4095, 8191]
theorem raster_Flat.tab15 : rtab .any (opsOf Try.f39 15) = raster_Flat.T15 := by kernel_rfl
theorem raster_Flat.bits15 : waitsOk raster_Flat.T15.2 raster_Flat.B15 = true := by kernel_rfl
set_option maxHeartbeats 8000000 in
set_option maxRecDepth 100000 in
theorem raster_Flat.calls (k : Nat) (A0 : Option Addr) (c0 : Nat) (l0 : List (S45)) (r1 : List (S72)) (r2 : Int) (w : World) (hr0 : Kd.C k45 w A0 l0.length l0) (hc0 : l0.length ≤ c0) (h : raster_Flat.f k l0 = some (r1, r2)) :
    Calls Try.prog 39 #[.slice A0 l0.length c0] w fun e w' => ∃ v0_ : Value, e = .returned (.tuple #[v0_, .int .i64 r2]) ∧ Kd.R k72 72 w' w.heap.size (fun _ => True) v0_ r1 ∧ Below w.heap.size w w' := by
  have hu129 := Try.underlying129
  have hu45 := Try.underlying45
  have hu70 := Try.underlying70
  have hu72 := Try.underlying72
  have HR0 := Aside0.mk hr0
  have HC0 := Aside0.mk hc0
  clear hr0 hc0
  have HB := Aside0.mk (Below.refl w.heap.size w)
  have H : ((raster_all.f).bind fun bt111 => (raster_Flat.l0 k (([(⟨(⟨bt111.1, bt111.2.1, bt111.2.2.1, bt111.2.2.2⟩ : S70), 1000⟩ : S129)] : List (S129))) ([] : List (S72)) l0 (l0.length : Int) 0)) = some (r1, r2) := h
  clear h
  replace H := Option.bind_eq_some_iff.mp H
  obtain ⟨⟨t111, t112, t113, t114⟩, A20, H⟩ := H
  replace H : (raster_Flat.l0 k (([(⟨(⟨t111, t112, t113, t114⟩ : S70), 1000⟩ : S129)] : List (S129))) ([] : List (S72)) l0 (l0.length : Int) 0) = some (r1, r2) := H
  have A2 := Aside0.mk A20
  clear A20
  obtain ⟨y115, hy115⟩ : ∃ y_ : List (S129), y_ = (([(⟨(⟨t111, t112, t113, t114⟩ : S70), 1000⟩ : S129)] : List (S129))) := ⟨_, rfl⟩
  replace H : (raster_Flat.l0 k y115 ([] : List (S72)) l0 (l0.length : Int) 0) = some (r1, r2) := by first | (rw [hy115]; with_reducible exact H) | (have H2_ := (Option.bind_some _ _).symm.trans H; rw [hy115]; with_reducible exact H2_) | (have H2_ := (Option.bind_some _ _).symm.trans H; with_reducible exact H2_) | with_reducible exact H | (rw [hy115]; exact H) | exact H
  have Ny115 := Aside0.mk hy115
  clear hy115
  have H' := Aside0.mk H
  clear H
  go_enter Try.func39, Try.ntmps39
  go_wp2_with (first | ((with_reducible refine gate_callee (f := 91) rfl ?_); refine goesL_ (some 9) rfl rfl Try.func91 (by kernel_rfl) rfl #[] rfl (by (try simp only [List.map_toArray, List.map_cons, List.map_nil]); first | done | rfl | (simp only [List.length_drop, List.length_take]; rfl)) ?_; (with_reducible refine (raster_all.calls  t111 t112 t113 t114 _ A2.out).mono ?_); rintro e w3 ⟨rfl, hb⟩; refine ⟨_, rfl, ?_⟩; have n0_ := Aside0.mk (below_step (by repeat (first | (with_reducible first | exact HB.out | apply below_alloc | apply pw_below_drewN | apply below_drew1) | exact HB.out)) hb); clear HB; have HB := n0_; clear n0_; (try clear hb); (try clear hb2); (try clear hk); (try clear hi)) | ((with_reducible refine gate_dst (N := 11) rfl ?_); refine Kd.R_lit k129 _ 129 ?hg (N := 11) ?hd (xs := ([(⟨(⟨t111, t112, t113, t114⟩ : S70), 1000⟩ : S129)] : List (S129))) (inner := [.int .i64 t111, .int .i64 t112, .int .i64 t113, .int .i64 t114, .int .i64 1000]) (ok := fun _ => True) (okp := fun _ => True) ?hr ?hp (fun _ hk => hk) trivial (Below.refl _ _) (Nat.le_refl _) (by simp) ?_; (case hd => rfl); (case hg => rfl); (case hr => first | (go_simp; done) | (go_simp; rfl)); (case hp => exact (Reps.c5 (show Kd.M k129 _ _ _ (⟨(⟨t111, t112, t113, t114⟩ : S70), 1000⟩ : S129) [.int .i64 t111, .int .i64 t112, .int .i64 t113, .int .i64 t114, .int .i64 1000] from (k129_mkM _ _ _ (⟨(⟨t111, t112, t113, t114⟩ : S70), 1000⟩ : S129) )) (Reps.none _ _))); intro v116 w4 ho5 hb hg_ hnew_; clear hg_ hnew_; (first | rw [← Ny115.out] at ho5 | (simp only [Int.reduceToNat] at ho5; rw [← Ny115.out] at ho5)); have n0_ := Aside0.mk (Kd.R_lower ho5 (below_size (by repeat (first | (with_reducible first | exact HB.out | apply below_alloc | apply pw_below_drewN | apply below_drew1) | exact HB.out)))); have n1_ := Aside0.mk (below_step (by repeat (first | (with_reducible first | exact HB.out | apply below_alloc | apply pw_below_drewN | apply below_drew1) | exact HB.out)) hb); clear HB; have HO117 := n0_; have HB := n1_; clear n0_ n1_; clear hb ho5))
  go_loopg [4, 5, 14] k (fun kq v4 v5 v14 w' => ∃ (x4_1 : List (S129)) (x5_1 : List (S72)) (x14_1 : Int), v14 = .int .i64 x14_1 ∧ Aside0 (raster_Flat.l0 kq x4_1 x5_1 l0 (l0.length : Int) x14_1 = some (r1, r2)) ∧ Aside0 (kq ≤ k) ∧ Aside0 (Kd.R k129 129 w' w.heap.size (fun _ => True) v4 x4_1) ∧ Aside0 (Kd.R k72 72 w' w.heap.size (fun _ => True) v5 x5_1) ∧ Aside0 (Below w.heap.size w w'))
  case atStart => exact ⟨(y115), (([] : List (S72))), (0), (by first | rfl | (simp; done) | (simp [*]; done)), H', ⟨Nat.le_refl _⟩, ⟨by (with_reducible repeat (first | apply Kd.R_alloc | apply Kd.R_drewN | apply Kd.R_drew)); exact HO117.out⟩, ⟨by first | exact Kd.R_nil _ _ _ _ _ | exact Kd.N_nil _ _ _ _ _ | exact Kd.V_nil _ _ _ _ _ | exact Kd.Q_nil _ _ _ _ _ | exact Kd.S_nil _ _ _ _ _⟩, ⟨by repeat (first | (with_reducible first | exact HB.out | apply below_alloc | apply pw_below_drewN | apply below_drew1) | exact HB.out)⟩⟩
  case round =>
    clear H'
    try clear p2
    try clear c3
    try clear c5
    obtain ⟨x4_1, x5_1, x14_1, rfl, HA, HK1, HO_4, HO_5, HB⟩ := hrel
    cases gk with
    | zero => exact absurd HA.out (by simp [raster_Flat.l0])
    | succ k1 =>
      have H := HA.out
      clear HA
      simp only [raster_Flat.l0] at H
      by_cases c6 : x14_1 < (l0.length : Int)
      · rw [if_pos c6] at H
        have c6b0 : decide (x14_1 < (l0.length : Int)) = true := decide_eq_true c6
        clear c6
        by_cases c7 : 0 ≤ x14_1
        · rw [if_pos c7] at H
          have c7b0 : decide (0 ≤ x14_1) = true := decide_eq_true c7
          clear c7
          by_cases c8 : x14_1 < (l0.length : Int)
          · rw [if_pos c8] at H
            have c8b0 : decide (x14_1 < (l0.length : Int)) = true := decide_eq_true c8
            clear c8
            obtain ⟨ji9, hji9⟩ : ∃ j_ : Int, (wrap64 ((x4_1.length : Int) - 1)) = j_ := ⟨_, rfl⟩
            replace H : (if 0 ≤ (ji9) then (if (ji9) < (x4_1.length : Int) then (if ((rd_T45 l0 x14_1).f0) = 1 then (raster_Flat.j1 k1 x4_1 x5_1 l0 (l0.length : Int) x14_1 ((rd_T45 l0 x14_1).f0) (((rd_T45 l0 x14_1).f0) == 1) ((rd_T45 l0 x14_1).f0) ((rd_T45 l0 x14_1).f1) ((rd_T45 l0 x14_1).f2) ((rd_T45 l0 x14_1).f3) ((rd_T45 l0 x14_1).f4) ((rd_T45 l0 x14_1).f5) ((rd_T45 l0 x14_1).f6) ((rd_T45 l0 x14_1).f7) ((rd_T45 l0 x14_1).f8) ((rd_T129 x4_1 (ji9)).f0.f0) ((rd_T129 x4_1 (ji9)).f0.f1) ((rd_T129 x4_1 (ji9)).f0.f2) ((rd_T129 x4_1 (ji9)).f0.f3) ((rd_T129 x4_1 (ji9)).f1)) else (raster_Flat.j1 k1 x4_1 x5_1 l0 (l0.length : Int) x14_1 ((rd_T45 l0 x14_1).f0) (((rd_T45 l0 x14_1).f0) == 2) ((rd_T45 l0 x14_1).f0) ((rd_T45 l0 x14_1).f1) ((rd_T45 l0 x14_1).f2) ((rd_T45 l0 x14_1).f3) ((rd_T45 l0 x14_1).f4) ((rd_T45 l0 x14_1).f5) ((rd_T45 l0 x14_1).f6) ((rd_T45 l0 x14_1).f7) ((rd_T45 l0 x14_1).f8) ((rd_T129 x4_1 (ji9)).f0.f0) ((rd_T129 x4_1 (ji9)).f0.f1) ((rd_T129 x4_1 (ji9)).f0.f2) ((rd_T129 x4_1 (ji9)).f0.f3) ((rd_T129 x4_1 (ji9)).f1))) else (none)) else (none)) = some (r1, r2) := by first | (rw [hji9] at H; exact H) | (simp only [hji9] at H ⊢; exact H)
            have hji9w : (IntKind.i64.wrap ((x4_1.length : Int) - 1)) = ji9 := (i64_w _).trans hji9
            by_cases c10 : 0 ≤ (ji9)
            · rw [if_pos c10] at H
              have c10b0 : decide (0 ≤ (ji9)) = true := decide_eq_true c10
              clear c10
              by_cases c11 : (ji9) < (x4_1.length : Int)
              · rw [if_pos c11] at H
                have c11b0 : decide ((ji9) < (x4_1.length : Int)) = true := decide_eq_true c11
                clear c11
                have HC12 := Aside0.mk H
                clear H
                have p118 : 0 ≤ (x14_1 : Int) := of_decide_eq_true (by first | (with_reducible assumption) | assumption)
                have q118 : x14_1 < (l0.length : Int) := of_decide_eq_true (by first | (with_reducible assumption) | assumption)
                obtain ⟨ad118, e118, hx118_0, hx118_1, hx118_2, hx118_3, hx118_4, hx118_5, hx118_6, hx118_7, hx118_8⟩ := at_T45 HR0.out x14_1 p118 q118
                cases e118
                replace hx118_0 := (HB.out.cell (World.block_lt_of_cell? w _ hx118_0)).trans hx118_0
                replace hx118_1 := (HB.out.cell (World.block_lt_of_cell? w _ hx118_1)).trans hx118_1
                replace hx118_2 := (HB.out.cell (World.block_lt_of_cell? w _ hx118_2)).trans hx118_2
                replace hx118_3 := (HB.out.cell (World.block_lt_of_cell? w _ hx118_3)).trans hx118_3
                replace hx118_4 := (HB.out.cell (World.block_lt_of_cell? w _ hx118_4)).trans hx118_4
                replace hx118_5 := (HB.out.cell (World.block_lt_of_cell? w _ hx118_5)).trans hx118_5
                replace hx118_6 := (HB.out.cell (World.block_lt_of_cell? w _ hx118_6)).trans hx118_6
                replace hx118_7 := (HB.out.cell (World.block_lt_of_cell? w _ hx118_7)).trans hx118_7
                replace hx118_8 := (HB.out.cell (World.block_lt_of_cell? w _ hx118_8)).trans hx118_8
                replace p118 := eq_true p118
                replace q118 := eq_true q118
                go_upto_if 26 with (first | ((with_reducible refine gate_dst (N := 7) rfl ?_); refine box_event ?hg (N := 7) ?hd (cs := #[.int .i64 0, .int .i64 0, .int .i64 0, .int .i64 0, .int .i64 0, .int .i64 0, .int .i64 0, .int .i64 0, .string (⟨#[]⟩ : ByteArray)]) (t := 45) ?hr ?_; (case hd => rfl); (case hg => rfl); (case hr => first | (go_simp; done) | (go_simp; rfl)); intro gb119 hg w13 hbox hb; have n0_ := Aside0.mk (Kd.R_below (by (with_reducible repeat (first | apply Kd.R_alloc | apply Kd.R_drewN | apply Kd.R_drew)); exact HO_4.out) hb); have n1_ := Aside0.mk (Kd.R_below (by (with_reducible repeat (first | apply Kd.R_alloc | apply Kd.R_drewN | apply Kd.R_drew)); exact HO_5.out) hb); have n2_ := Aside0.mk (below_step (by repeat (first | (with_reducible first | exact HB.out | apply below_alloc | apply pw_below_drewN | apply below_drew1) | exact HB.out)) hb); have n3_ := Aside0.mk (hbox); have n4_ := Aside0.mk ((by rw [hg]; exact (below_size (by repeat (first | (with_reducible first | exact HB.out | apply below_alloc | apply pw_below_drewN | apply below_drew1) | exact HB.out))) : w.heap.size ≤ gb119)); have n5_ := Aside0.mk ((by rw [hg]; exact (below_size (by repeat (first | (with_reducible first | exact HB.out | apply below_alloc | apply pw_below_drewN | apply below_drew1) | exact HB.out))) : w.heap.size ≤ gb119)); clear HO_4; clear HO_5; clear HB; have HO_4 := n0_; have HO_5 := n1_; have HB := n2_; have BK119 := n3_; have GW119 := n4_; have GE119 := n5_; clear n0_ n1_ n2_ n3_ n4_ n5_; clear hb hbox hg; have hcz14_0 : w13.cell? ⟨gb119, 0, none⟩ = some (.int .i64 0) := (blk_cell BK119.out 0).trans rfl; have hcz14_1 : w13.cell? ⟨gb119, 1, none⟩ = some (.int .i64 0) := (blk_cell BK119.out 1).trans rfl; have hcz14_2 : w13.cell? ⟨gb119, 2, none⟩ = some (.int .i64 0) := (blk_cell BK119.out 2).trans rfl; have hcz14_3 : w13.cell? ⟨gb119, 3, none⟩ = some (.int .i64 0) := (blk_cell BK119.out 3).trans rfl; have hcz14_4 : w13.cell? ⟨gb119, 4, none⟩ = some (.int .i64 0) := (blk_cell BK119.out 4).trans rfl; have hcz14_5 : w13.cell? ⟨gb119, 5, none⟩ = some (.int .i64 0) := (blk_cell BK119.out 5).trans rfl; have hcz14_6 : w13.cell? ⟨gb119, 6, none⟩ = some (.int .i64 0) := (blk_cell BK119.out 6).trans rfl; have hcz14_7 : w13.cell? ⟨gb119, 7, none⟩ = some (.int .i64 0) := (blk_cell BK119.out 7).trans rfl; have hcz14_8 : w13.cell? ⟨gb119, 8, none⟩ = some (.string (⟨#[]⟩ : ByteArray)) := (blk_cell BK119.out 8).trans rfl; have hfz14_0 := blk_frozen BK119.out 0; have hfz14_1 := blk_frozen BK119.out 1; have hfz14_2 := blk_frozen BK119.out 2; have hfz14_3 := blk_frozen BK119.out 3; have hfz14_4 := blk_frozen BK119.out 4; have hfz14_5 := blk_frozen BK119.out 5; have hfz14_6 := blk_frozen BK119.out 6; have hfz14_7 := blk_frozen BK119.out 7; have hfz14_8 := blk_frozen BK119.out 8; obtain ⟨Ao15, co15, eo15⟩ := Kd.R_slice HO_4.out; subst eo15; have p120 : 0 ≤ ((ji9) : Int) := of_decide_eq_true (by first | (with_reducible assumption) | assumption); have q120 : (ji9) < (x4_1.length : Int) := of_decide_eq_true (by first | (with_reducible assumption) | assumption); obtain ⟨ad120, e120, hx120_0, hx120_1, hx120_2, hx120_3, hx120_4⟩ := at_T129 (Kd.R_reads' HO_4.out).2.2 (ji9) p120 q120; cases e120; have hn120_0 : ad120.block ≠ gb119 := Kd.own_blk (Kd.R_ne HO_4.out BK119.out (by decide)); have hn120_1 : ad120.block ≠ gb119 := Kd.own_blk (Kd.R_ne HO_4.out BK119.out (by decide)); have hn120_2 : ad120.block ≠ gb119 := Kd.own_blk (Kd.R_ne HO_4.out BK119.out (by decide)); have hn120_3 : ad120.block ≠ gb119 := Kd.own_blk (Kd.R_ne HO_4.out BK119.out (by decide)); have hn120_4 : ad120.block ≠ gb119 := Kd.own_blk (Kd.R_ne HO_4.out BK119.out (by decide)); have hn120_5 : ad120.block ≠ gb119 := Kd.own_blk (Kd.R_ne HO_4.out BK119.out (by decide)); have hn120_6 : ad120.block ≠ gb119 := Kd.own_blk (Kd.R_ne HO_4.out BK119.out (by decide)); have hn120_7 : ad120.block ≠ gb119 := Kd.own_blk (Kd.R_ne HO_4.out BK119.out (by decide)); have hn120_8 : ad120.block ≠ gb119 := Kd.own_blk (Kd.R_ne HO_4.out BK119.out (by decide)); replace hx120_0 := (cell_far (p := ⟨gb119, 0, none⟩) (by first | (rw [add_block]; exact hn120_0) | (show (Addr.add _ _).block ≠ _; rw [add_block]; exact hn120_0) | exact hn120_0) (.int .i64 ((rd_T45 l0 x14_1).f0))).trans hx120_0; replace hx120_1 := (cell_far (p := ⟨gb119, 0, none⟩) (by first | (rw [add_block]; exact hn120_0) | (show (Addr.add _ _).block ≠ _; rw [add_block]; exact hn120_0) | exact hn120_0) (.int .i64 ((rd_T45 l0 x14_1).f0))).trans hx120_1; replace hx120_2 := (cell_far (p := ⟨gb119, 0, none⟩) (by first | (rw [add_block]; exact hn120_0) | (show (Addr.add _ _).block ≠ _; rw [add_block]; exact hn120_0) | exact hn120_0) (.int .i64 ((rd_T45 l0 x14_1).f0))).trans hx120_2; replace hx120_3 := (cell_far (p := ⟨gb119, 0, none⟩) (by first | (rw [add_block]; exact hn120_0) | (show (Addr.add _ _).block ≠ _; rw [add_block]; exact hn120_0) | exact hn120_0) (.int .i64 ((rd_T45 l0 x14_1).f0))).trans hx120_3; replace hx120_4 := (cell_far (p := ⟨gb119, 0, none⟩) (by first | (rw [add_block]; exact hn120_0) | (show (Addr.add _ _).block ≠ _; rw [add_block]; exact hn120_0) | exact hn120_0) (.int .i64 ((rd_T45 l0 x14_1).f0))).trans hx120_4; replace hx120_0 := (cell_far (p := ⟨gb119, 1, none⟩) (by first | (rw [add_block]; exact hn120_1) | (show (Addr.add _ _).block ≠ _; rw [add_block]; exact hn120_1) | exact hn120_1) (.int .i64 ((rd_T45 l0 x14_1).f1))).trans hx120_0; replace hx120_1 := (cell_far (p := ⟨gb119, 1, none⟩) (by first | (rw [add_block]; exact hn120_1) | (show (Addr.add _ _).block ≠ _; rw [add_block]; exact hn120_1) | exact hn120_1) (.int .i64 ((rd_T45 l0 x14_1).f1))).trans hx120_1; replace hx120_2 := (cell_far (p := ⟨gb119, 1, none⟩) (by first | (rw [add_block]; exact hn120_1) | (show (Addr.add _ _).block ≠ _; rw [add_block]; exact hn120_1) | exact hn120_1) (.int .i64 ((rd_T45 l0 x14_1).f1))).trans hx120_2; replace hx120_3 := (cell_far (p := ⟨gb119, 1, none⟩) (by first | (rw [add_block]; exact hn120_1) | (show (Addr.add _ _).block ≠ _; rw [add_block]; exact hn120_1) | exact hn120_1) (.int .i64 ((rd_T45 l0 x14_1).f1))).trans hx120_3; replace hx120_4 := (cell_far (p := ⟨gb119, 1, none⟩) (by first | (rw [add_block]; exact hn120_1) | (show (Addr.add _ _).block ≠ _; rw [add_block]; exact hn120_1) | exact hn120_1) (.int .i64 ((rd_T45 l0 x14_1).f1))).trans hx120_4; replace hx120_0 := (cell_far (p := ⟨gb119, 2, none⟩) (by first | (rw [add_block]; exact hn120_2) | (show (Addr.add _ _).block ≠ _; rw [add_block]; exact hn120_2) | exact hn120_2) (.int .i64 ((rd_T45 l0 x14_1).f2))).trans hx120_0; replace hx120_1 := (cell_far (p := ⟨gb119, 2, none⟩) (by first | (rw [add_block]; exact hn120_2) | (show (Addr.add _ _).block ≠ _; rw [add_block]; exact hn120_2) | exact hn120_2) (.int .i64 ((rd_T45 l0 x14_1).f2))).trans hx120_1; replace hx120_2 := (cell_far (p := ⟨gb119, 2, none⟩) (by first | (rw [add_block]; exact hn120_2) | (show (Addr.add _ _).block ≠ _; rw [add_block]; exact hn120_2) | exact hn120_2) (.int .i64 ((rd_T45 l0 x14_1).f2))).trans hx120_2; replace hx120_3 := (cell_far (p := ⟨gb119, 2, none⟩) (by first | (rw [add_block]; exact hn120_2) | (show (Addr.add _ _).block ≠ _; rw [add_block]; exact hn120_2) | exact hn120_2) (.int .i64 ((rd_T45 l0 x14_1).f2))).trans hx120_3; replace hx120_4 := (cell_far (p := ⟨gb119, 2, none⟩) (by first | (rw [add_block]; exact hn120_2) | (show (Addr.add _ _).block ≠ _; rw [add_block]; exact hn120_2) | exact hn120_2) (.int .i64 ((rd_T45 l0 x14_1).f2))).trans hx120_4; replace hx120_0 := (cell_far (p := ⟨gb119, 3, none⟩) (by first | (rw [add_block]; exact hn120_3) | (show (Addr.add _ _).block ≠ _; rw [add_block]; exact hn120_3) | exact hn120_3) (.int .i64 ((rd_T45 l0 x14_1).f3))).trans hx120_0; replace hx120_1 := (cell_far (p := ⟨gb119, 3, none⟩) (by first | (rw [add_block]; exact hn120_3) | (show (Addr.add _ _).block ≠ _; rw [add_block]; exact hn120_3) | exact hn120_3) (.int .i64 ((rd_T45 l0 x14_1).f3))).trans hx120_1; replace hx120_2 := (cell_far (p := ⟨gb119, 3, none⟩) (by first | (rw [add_block]; exact hn120_3) | (show (Addr.add _ _).block ≠ _; rw [add_block]; exact hn120_3) | exact hn120_3) (.int .i64 ((rd_T45 l0 x14_1).f3))).trans hx120_2; replace hx120_3 := (cell_far (p := ⟨gb119, 3, none⟩) (by first | (rw [add_block]; exact hn120_3) | (show (Addr.add _ _).block ≠ _; rw [add_block]; exact hn120_3) | exact hn120_3) (.int .i64 ((rd_T45 l0 x14_1).f3))).trans hx120_3; replace hx120_4 := (cell_far (p := ⟨gb119, 3, none⟩) (by first | (rw [add_block]; exact hn120_3) | (show (Addr.add _ _).block ≠ _; rw [add_block]; exact hn120_3) | exact hn120_3) (.int .i64 ((rd_T45 l0 x14_1).f3))).trans hx120_4; replace hx120_0 := (cell_far (p := ⟨gb119, 4, none⟩) (by first | (rw [add_block]; exact hn120_4) | (show (Addr.add _ _).block ≠ _; rw [add_block]; exact hn120_4) | exact hn120_4) (.int .i64 ((rd_T45 l0 x14_1).f4))).trans hx120_0; replace hx120_1 := (cell_far (p := ⟨gb119, 4, none⟩) (by first | (rw [add_block]; exact hn120_4) | (show (Addr.add _ _).block ≠ _; rw [add_block]; exact hn120_4) | exact hn120_4) (.int .i64 ((rd_T45 l0 x14_1).f4))).trans hx120_1; replace hx120_2 := (cell_far (p := ⟨gb119, 4, none⟩) (by first | (rw [add_block]; exact hn120_4) | (show (Addr.add _ _).block ≠ _; rw [add_block]; exact hn120_4) | exact hn120_4) (.int .i64 ((rd_T45 l0 x14_1).f4))).trans hx120_2; replace hx120_3 := (cell_far (p := ⟨gb119, 4, none⟩) (by first | (rw [add_block]; exact hn120_4) | (show (Addr.add _ _).block ≠ _; rw [add_block]; exact hn120_4) | exact hn120_4) (.int .i64 ((rd_T45 l0 x14_1).f4))).trans hx120_3; replace hx120_4 := (cell_far (p := ⟨gb119, 4, none⟩) (by first | (rw [add_block]; exact hn120_4) | (show (Addr.add _ _).block ≠ _; rw [add_block]; exact hn120_4) | exact hn120_4) (.int .i64 ((rd_T45 l0 x14_1).f4))).trans hx120_4; replace hx120_0 := (cell_far (p := ⟨gb119, 5, none⟩) (by first | (rw [add_block]; exact hn120_5) | (show (Addr.add _ _).block ≠ _; rw [add_block]; exact hn120_5) | exact hn120_5) (.int .i64 ((rd_T45 l0 x14_1).f5))).trans hx120_0; replace hx120_1 := (cell_far (p := ⟨gb119, 5, none⟩) (by first | (rw [add_block]; exact hn120_5) | (show (Addr.add _ _).block ≠ _; rw [add_block]; exact hn120_5) | exact hn120_5) (.int .i64 ((rd_T45 l0 x14_1).f5))).trans hx120_1; replace hx120_2 := (cell_far (p := ⟨gb119, 5, none⟩) (by first | (rw [add_block]; exact hn120_5) | (show (Addr.add _ _).block ≠ _; rw [add_block]; exact hn120_5) | exact hn120_5) (.int .i64 ((rd_T45 l0 x14_1).f5))).trans hx120_2; replace hx120_3 := (cell_far (p := ⟨gb119, 5, none⟩) (by first | (rw [add_block]; exact hn120_5) | (show (Addr.add _ _).block ≠ _; rw [add_block]; exact hn120_5) | exact hn120_5) (.int .i64 ((rd_T45 l0 x14_1).f5))).trans hx120_3; replace hx120_4 := (cell_far (p := ⟨gb119, 5, none⟩) (by first | (rw [add_block]; exact hn120_5) | (show (Addr.add _ _).block ≠ _; rw [add_block]; exact hn120_5) | exact hn120_5) (.int .i64 ((rd_T45 l0 x14_1).f5))).trans hx120_4; replace hx120_0 := (cell_far (p := ⟨gb119, 6, none⟩) (by first | (rw [add_block]; exact hn120_6) | (show (Addr.add _ _).block ≠ _; rw [add_block]; exact hn120_6) | exact hn120_6) (.int .i64 ((rd_T45 l0 x14_1).f6))).trans hx120_0; replace hx120_1 := (cell_far (p := ⟨gb119, 6, none⟩) (by first | (rw [add_block]; exact hn120_6) | (show (Addr.add _ _).block ≠ _; rw [add_block]; exact hn120_6) | exact hn120_6) (.int .i64 ((rd_T45 l0 x14_1).f6))).trans hx120_1; replace hx120_2 := (cell_far (p := ⟨gb119, 6, none⟩) (by first | (rw [add_block]; exact hn120_6) | (show (Addr.add _ _).block ≠ _; rw [add_block]; exact hn120_6) | exact hn120_6) (.int .i64 ((rd_T45 l0 x14_1).f6))).trans hx120_2; replace hx120_3 := (cell_far (p := ⟨gb119, 6, none⟩) (by first | (rw [add_block]; exact hn120_6) | (show (Addr.add _ _).block ≠ _; rw [add_block]; exact hn120_6) | exact hn120_6) (.int .i64 ((rd_T45 l0 x14_1).f6))).trans hx120_3; replace hx120_4 := (cell_far (p := ⟨gb119, 6, none⟩) (by first | (rw [add_block]; exact hn120_6) | (show (Addr.add _ _).block ≠ _; rw [add_block]; exact hn120_6) | exact hn120_6) (.int .i64 ((rd_T45 l0 x14_1).f6))).trans hx120_4; replace hx120_0 := (cell_far (p := ⟨gb119, 7, none⟩) (by first | (rw [add_block]; exact hn120_7) | (show (Addr.add _ _).block ≠ _; rw [add_block]; exact hn120_7) | exact hn120_7) (.int .i64 ((rd_T45 l0 x14_1).f7))).trans hx120_0; replace hx120_1 := (cell_far (p := ⟨gb119, 7, none⟩) (by first | (rw [add_block]; exact hn120_7) | (show (Addr.add _ _).block ≠ _; rw [add_block]; exact hn120_7) | exact hn120_7) (.int .i64 ((rd_T45 l0 x14_1).f7))).trans hx120_1; replace hx120_2 := (cell_far (p := ⟨gb119, 7, none⟩) (by first | (rw [add_block]; exact hn120_7) | (show (Addr.add _ _).block ≠ _; rw [add_block]; exact hn120_7) | exact hn120_7) (.int .i64 ((rd_T45 l0 x14_1).f7))).trans hx120_2; replace hx120_3 := (cell_far (p := ⟨gb119, 7, none⟩) (by first | (rw [add_block]; exact hn120_7) | (show (Addr.add _ _).block ≠ _; rw [add_block]; exact hn120_7) | exact hn120_7) (.int .i64 ((rd_T45 l0 x14_1).f7))).trans hx120_3; replace hx120_4 := (cell_far (p := ⟨gb119, 7, none⟩) (by first | (rw [add_block]; exact hn120_7) | (show (Addr.add _ _).block ≠ _; rw [add_block]; exact hn120_7) | exact hn120_7) (.int .i64 ((rd_T45 l0 x14_1).f7))).trans hx120_4; replace hx120_0 := (cell_far (p := ⟨gb119, 8, none⟩) (by first | (rw [add_block]; exact hn120_8) | (show (Addr.add _ _).block ≠ _; rw [add_block]; exact hn120_8) | exact hn120_8) (.string ((rd_T45 l0 x14_1).f8))).trans hx120_0; replace hx120_1 := (cell_far (p := ⟨gb119, 8, none⟩) (by first | (rw [add_block]; exact hn120_8) | (show (Addr.add _ _).block ≠ _; rw [add_block]; exact hn120_8) | exact hn120_8) (.string ((rd_T45 l0 x14_1).f8))).trans hx120_1; replace hx120_2 := (cell_far (p := ⟨gb119, 8, none⟩) (by first | (rw [add_block]; exact hn120_8) | (show (Addr.add _ _).block ≠ _; rw [add_block]; exact hn120_8) | exact hn120_8) (.string ((rd_T45 l0 x14_1).f8))).trans hx120_2; replace hx120_3 := (cell_far (p := ⟨gb119, 8, none⟩) (by first | (rw [add_block]; exact hn120_8) | (show (Addr.add _ _).block ≠ _; rw [add_block]; exact hn120_8) | exact hn120_8) (.string ((rd_T45 l0 x14_1).f8))).trans hx120_3; replace hx120_4 := (cell_far (p := ⟨gb119, 8, none⟩) (by first | (rw [add_block]; exact hn120_8) | (show (Addr.add _ _).block ≠ _; rw [add_block]; exact hn120_8) | exact hn120_8) (.string ((rd_T45 l0 x14_1).f8))).trans hx120_4; clear hn120_0; clear hn120_1; clear hn120_2; clear hn120_3; clear hn120_4; clear hn120_5; clear hn120_6; clear hn120_7; clear hn120_8; replace p120 := eq_true p120; replace q120 := eq_true q120) | ((with_reducible refine gate_dst (N := 8) rfl ?_); refine box_event ?hg (N := 8) ?hd (cs := #[.int .i64 0, .int .i64 0, .int .i64 0, .int .i64 0, .int .i64 0]) (t := 129) ?hr ?_; (case hd => rfl); (case hg => rfl); (case hr => first | (go_simp; done) | (go_simp; rfl)); intro gb121 hg w16 hbox hb; have n0_ := Aside0.mk (Kd.R_below (Kd.R_elderB (by (with_reducible repeat (first | apply Kd.R_alloc | apply Kd.R_drewN | apply Kd.R_drew)); exact (Kd.R_mono (Kd.R_far (p := ⟨gb119, 8, none⟩) (Kd.R_far (p := ⟨gb119, 7, none⟩) (Kd.R_far (p := ⟨gb119, 6, none⟩) (Kd.R_far (p := ⟨gb119, 5, none⟩) (Kd.R_far (p := ⟨gb119, 4, none⟩) (Kd.R_far (p := ⟨gb119, 3, none⟩) (Kd.R_far (p := ⟨gb119, 2, none⟩) (Kd.R_far (p := ⟨gb119, 1, none⟩) (Kd.R_far (p := ⟨gb119, 0, none⟩) (Kd.R_types HO_4.out BK119.out (by decide)) (fun _ hk => hk.2) (.int .i64 ((rd_T45 l0 x14_1).f0))) (fun _ hk => hk.2) (.int .i64 ((rd_T45 l0 x14_1).f1))) (fun _ hk => hk.2) (.int .i64 ((rd_T45 l0 x14_1).f2))) (fun _ hk => hk.2) (.int .i64 ((rd_T45 l0 x14_1).f3))) (fun _ hk => hk.2) (.int .i64 ((rd_T45 l0 x14_1).f4))) (fun _ hk => hk.2) (.int .i64 ((rd_T45 l0 x14_1).f5))) (fun _ hk => hk.2) (.int .i64 ((rd_T45 l0 x14_1).f6))) (fun _ hk => hk.2) (.int .i64 ((rd_T45 l0 x14_1).f7))) (fun _ hk => hk.2) (.string ((rd_T45 l0 x14_1).f8))) (fun _ h_ => h_.1))) gb121 (Nat.le_of_eq hg.symm)) hb); have n1_ := Aside0.mk (Kd.R_below (by (with_reducible repeat (first | apply Kd.R_alloc | apply Kd.R_drewN | apply Kd.R_drew)); exact (Kd.R_mono (Kd.R_far (p := ⟨gb119, 8, none⟩) (Kd.R_far (p := ⟨gb119, 7, none⟩) (Kd.R_far (p := ⟨gb119, 6, none⟩) (Kd.R_far (p := ⟨gb119, 5, none⟩) (Kd.R_far (p := ⟨gb119, 4, none⟩) (Kd.R_far (p := ⟨gb119, 3, none⟩) (Kd.R_far (p := ⟨gb119, 2, none⟩) (Kd.R_far (p := ⟨gb119, 1, none⟩) (Kd.R_far (p := ⟨gb119, 0, none⟩) (Kd.R_types HO_5.out BK119.out (by decide)) (fun _ hk => hk.2) (.int .i64 ((rd_T45 l0 x14_1).f0))) (fun _ hk => hk.2) (.int .i64 ((rd_T45 l0 x14_1).f1))) (fun _ hk => hk.2) (.int .i64 ((rd_T45 l0 x14_1).f2))) (fun _ hk => hk.2) (.int .i64 ((rd_T45 l0 x14_1).f3))) (fun _ hk => hk.2) (.int .i64 ((rd_T45 l0 x14_1).f4))) (fun _ hk => hk.2) (.int .i64 ((rd_T45 l0 x14_1).f5))) (fun _ hk => hk.2) (.int .i64 ((rd_T45 l0 x14_1).f6))) (fun _ hk => hk.2) (.int .i64 ((rd_T45 l0 x14_1).f7))) (fun _ hk => hk.2) (.string ((rd_T45 l0 x14_1).f8))) (fun _ h_ => h_.1))) hb); have n2_ := Aside0.mk (blk_below (g := gb119) (o := .cells #[.int .i64 ((rd_T45 l0 x14_1).f0), .int .i64 ((rd_T45 l0 x14_1).f1), .int .i64 ((rd_T45 l0 x14_1).f2), .int .i64 ((rd_T45 l0 x14_1).f3), .int .i64 ((rd_T45 l0 x14_1).f4), .int .i64 ((rd_T45 l0 x14_1).f5), .int .i64 ((rd_T45 l0 x14_1).f6), .int .i64 ((rd_T45 l0 x14_1).f7), .string ((rd_T45 l0 x14_1).f8)] 45 (0, 0)) (by (with_reducible repeat (first | refine blk_drewN ?_ _ | refine blk_drew ?_ | refine blk_alloc ?_ _)); refine blk_put (cs := #[.int .i64 ((rd_T45 l0 x14_1).f0), .int .i64 ((rd_T45 l0 x14_1).f1), .int .i64 ((rd_T45 l0 x14_1).f2), .int .i64 ((rd_T45 l0 x14_1).f3), .int .i64 ((rd_T45 l0 x14_1).f4), .int .i64 ((rd_T45 l0 x14_1).f5), .int .i64 ((rd_T45 l0 x14_1).f6), .int .i64 ((rd_T45 l0 x14_1).f7), .string (⟨#[]⟩ : ByteArray)]) ?_ 8 _ rfl; (with_reducible repeat (first | refine blk_drewN ?_ _ | refine blk_drew ?_ | refine blk_alloc ?_ _)); refine blk_put (cs := #[.int .i64 ((rd_T45 l0 x14_1).f0), .int .i64 ((rd_T45 l0 x14_1).f1), .int .i64 ((rd_T45 l0 x14_1).f2), .int .i64 ((rd_T45 l0 x14_1).f3), .int .i64 ((rd_T45 l0 x14_1).f4), .int .i64 ((rd_T45 l0 x14_1).f5), .int .i64 ((rd_T45 l0 x14_1).f6), .int .i64 0, .string (⟨#[]⟩ : ByteArray)]) ?_ 7 _ rfl; (with_reducible repeat (first | refine blk_drewN ?_ _ | refine blk_drew ?_ | refine blk_alloc ?_ _)); refine blk_put (cs := #[.int .i64 ((rd_T45 l0 x14_1).f0), .int .i64 ((rd_T45 l0 x14_1).f1), .int .i64 ((rd_T45 l0 x14_1).f2), .int .i64 ((rd_T45 l0 x14_1).f3), .int .i64 ((rd_T45 l0 x14_1).f4), .int .i64 ((rd_T45 l0 x14_1).f5), .int .i64 0, .int .i64 0, .string (⟨#[]⟩ : ByteArray)]) ?_ 6 _ rfl; (with_reducible repeat (first | refine blk_drewN ?_ _ | refine blk_drew ?_ | refine blk_alloc ?_ _)); refine blk_put (cs := #[.int .i64 ((rd_T45 l0 x14_1).f0), .int .i64 ((rd_T45 l0 x14_1).f1), .int .i64 ((rd_T45 l0 x14_1).f2), .int .i64 ((rd_T45 l0 x14_1).f3), .int .i64 ((rd_T45 l0 x14_1).f4), .int .i64 0, .int .i64 0, .int .i64 0, .string (⟨#[]⟩ : ByteArray)]) ?_ 5 _ rfl; (with_reducible repeat (first | refine blk_drewN ?_ _ | refine blk_drew ?_ | refine blk_alloc ?_ _)); refine blk_put (cs := #[.int .i64 ((rd_T45 l0 x14_1).f0), .int .i64 ((rd_T45 l0 x14_1).f1), .int .i64 ((rd_T45 l0 x14_1).f2), .int .i64 ((rd_T45 l0 x14_1).f3), .int .i64 0, .int .i64 0, .int .i64 0, .int .i64 0, .string (⟨#[]⟩ : ByteArray)]) ?_ 4 _ rfl; (with_reducible repeat (first | refine blk_drewN ?_ _ | refine blk_drew ?_ | refine blk_alloc ?_ _)); refine blk_put (cs := #[.int .i64 ((rd_T45 l0 x14_1).f0), .int .i64 ((rd_T45 l0 x14_1).f1), .int .i64 ((rd_T45 l0 x14_1).f2), .int .i64 0, .int .i64 0, .int .i64 0, .int .i64 0, .int .i64 0, .string (⟨#[]⟩ : ByteArray)]) ?_ 3 _ rfl; (with_reducible repeat (first | refine blk_drewN ?_ _ | refine blk_drew ?_ | refine blk_alloc ?_ _)); refine blk_put (cs := #[.int .i64 ((rd_T45 l0 x14_1).f0), .int .i64 ((rd_T45 l0 x14_1).f1), .int .i64 0, .int .i64 0, .int .i64 0, .int .i64 0, .int .i64 0, .int .i64 0, .string (⟨#[]⟩ : ByteArray)]) ?_ 2 _ rfl; (with_reducible repeat (first | refine blk_drewN ?_ _ | refine blk_drew ?_ | refine blk_alloc ?_ _)); refine blk_put (cs := #[.int .i64 ((rd_T45 l0 x14_1).f0), .int .i64 0, .int .i64 0, .int .i64 0, .int .i64 0, .int .i64 0, .int .i64 0, .int .i64 0, .string (⟨#[]⟩ : ByteArray)]) ?_ 1 _ rfl; (with_reducible repeat (first | refine blk_drewN ?_ _ | refine blk_drew ?_ | refine blk_alloc ?_ _)); refine blk_put (cs := #[.int .i64 0, .int .i64 0, .int .i64 0, .int .i64 0, .int .i64 0, .int .i64 0, .int .i64 0, .int .i64 0, .string (⟨#[]⟩ : ByteArray)]) ?_ 0 _ rfl; (with_reducible repeat (first | refine blk_drewN ?_ _ | refine blk_drew ?_ | refine blk_alloc ?_ _)); exact BK119.out) hb); have n3_ := Aside0.mk (below_step (by repeat (first | (with_reducible first | exact HB.out | apply below_alloc | apply pw_below_drewN | apply below_drew1 | refine below_set ?_ GE119.out) | exact HB.out)) hb); have n4_ := Aside0.mk (hbox); have n5_ := Aside0.mk ((by rw [hg]; exact (below_size (by repeat (first | (with_reducible first | exact HB.out | apply below_alloc | apply pw_below_drewN | apply below_drew1 | refine below_set ?_ GE119.out) | exact HB.out))) : w.heap.size ≤ gb121)); have n6_ := Aside0.mk ((by rw [hg]; exact (below_size (by repeat (first | (with_reducible first | exact HB.out | apply below_alloc | apply pw_below_drewN | apply below_drew1 | refine below_set ?_ GE119.out) | exact HB.out))) : w.heap.size ≤ gb121)); have n7_ := Aside0.mk ((by rw [hg]; exact Nat.ne_of_lt (blk_lt (g := gb119) (o := .cells #[.int .i64 ((rd_T45 l0 x14_1).f0), .int .i64 ((rd_T45 l0 x14_1).f1), .int .i64 ((rd_T45 l0 x14_1).f2), .int .i64 ((rd_T45 l0 x14_1).f3), .int .i64 ((rd_T45 l0 x14_1).f4), .int .i64 ((rd_T45 l0 x14_1).f5), .int .i64 ((rd_T45 l0 x14_1).f6), .int .i64 ((rd_T45 l0 x14_1).f7), .string ((rd_T45 l0 x14_1).f8)] 45 (0, 0)) (by (with_reducible repeat (first | refine blk_drewN ?_ _ | refine blk_drew ?_ | refine blk_alloc ?_ _)); refine blk_put (cs := #[.int .i64 ((rd_T45 l0 x14_1).f0), .int .i64 ((rd_T45 l0 x14_1).f1), .int .i64 ((rd_T45 l0 x14_1).f2), .int .i64 ((rd_T45 l0 x14_1).f3), .int .i64 ((rd_T45 l0 x14_1).f4), .int .i64 ((rd_T45 l0 x14_1).f5), .int .i64 ((rd_T45 l0 x14_1).f6), .int .i64 ((rd_T45 l0 x14_1).f7), .string (⟨#[]⟩ : ByteArray)]) ?_ 8 _ rfl; (with_reducible repeat (first | refine blk_drewN ?_ _ | refine blk_drew ?_ | refine blk_alloc ?_ _)); refine blk_put (cs := #[.int .i64 ((rd_T45 l0 x14_1).f0), .int .i64 ((rd_T45 l0 x14_1).f1), .int .i64 ((rd_T45 l0 x14_1).f2), .int .i64 ((rd_T45 l0 x14_1).f3), .int .i64 ((rd_T45 l0 x14_1).f4), .int .i64 ((rd_T45 l0 x14_1).f5), .int .i64 ((rd_T45 l0 x14_1).f6), .int .i64 0, .string (⟨#[]⟩ : ByteArray)]) ?_ 7 _ rfl; (with_reducible repeat (first | refine blk_drewN ?_ _ | refine blk_drew ?_ | refine blk_alloc ?_ _)); refine blk_put (cs := #[.int .i64 ((rd_T45 l0 x14_1).f0), .int .i64 ((rd_T45 l0 x14_1).f1), .int .i64 ((rd_T45 l0 x14_1).f2), .int .i64 ((rd_T45 l0 x14_1).f3), .int .i64 ((rd_T45 l0 x14_1).f4), .int .i64 ((rd_T45 l0 x14_1).f5), .int .i64 0, .int .i64 0, .string (⟨#[]⟩ : ByteArray)]) ?_ 6 _ rfl; (with_reducible repeat (first | refine blk_drewN ?_ _ | refine blk_drew ?_ | refine blk_alloc ?_ _)); refine blk_put (cs := #[.int .i64 ((rd_T45 l0 x14_1).f0), .int .i64 ((rd_T45 l0 x14_1).f1), .int .i64 ((rd_T45 l0 x14_1).f2), .int .i64 ((rd_T45 l0 x14_1).f3), .int .i64 ((rd_T45 l0 x14_1).f4), .int .i64 0, .int .i64 0, .int .i64 0, .string (⟨#[]⟩ : ByteArray)]) ?_ 5 _ rfl; (with_reducible repeat (first | refine blk_drewN ?_ _ | refine blk_drew ?_ | refine blk_alloc ?_ _)); refine blk_put (cs := #[.int .i64 ((rd_T45 l0 x14_1).f0), .int .i64 ((rd_T45 l0 x14_1).f1), .int .i64 ((rd_T45 l0 x14_1).f2), .int .i64 ((rd_T45 l0 x14_1).f3), .int .i64 0, .int .i64 0, .int .i64 0, .int .i64 0, .string (⟨#[]⟩ : ByteArray)]) ?_ 4 _ rfl; (with_reducible repeat (first | refine blk_drewN ?_ _ | refine blk_drew ?_ | refine blk_alloc ?_ _)); refine blk_put (cs := #[.int .i64 ((rd_T45 l0 x14_1).f0), .int .i64 ((rd_T45 l0 x14_1).f1), .int .i64 ((rd_T45 l0 x14_1).f2), .int .i64 0, .int .i64 0, .int .i64 0, .int .i64 0, .int .i64 0, .string (⟨#[]⟩ : ByteArray)]) ?_ 3 _ rfl; (with_reducible repeat (first | refine blk_drewN ?_ _ | refine blk_drew ?_ | refine blk_alloc ?_ _)); refine blk_put (cs := #[.int .i64 ((rd_T45 l0 x14_1).f0), .int .i64 ((rd_T45 l0 x14_1).f1), .int .i64 0, .int .i64 0, .int .i64 0, .int .i64 0, .int .i64 0, .int .i64 0, .string (⟨#[]⟩ : ByteArray)]) ?_ 2 _ rfl; (with_reducible repeat (first | refine blk_drewN ?_ _ | refine blk_drew ?_ | refine blk_alloc ?_ _)); refine blk_put (cs := #[.int .i64 ((rd_T45 l0 x14_1).f0), .int .i64 0, .int .i64 0, .int .i64 0, .int .i64 0, .int .i64 0, .int .i64 0, .int .i64 0, .string (⟨#[]⟩ : ByteArray)]) ?_ 1 _ rfl; (with_reducible repeat (first | refine blk_drewN ?_ _ | refine blk_drew ?_ | refine blk_alloc ?_ _)); refine blk_put (cs := #[.int .i64 0, .int .i64 0, .int .i64 0, .int .i64 0, .int .i64 0, .int .i64 0, .int .i64 0, .int .i64 0, .string (⟨#[]⟩ : ByteArray)]) ?_ 0 _ rfl; (with_reducible repeat (first | refine blk_drewN ?_ _ | refine blk_drew ?_ | refine blk_alloc ?_ _)); exact BK119.out)) : gb119 ≠ gb121)); have n8_ := Aside0.mk ((by rw [hg]; exact Nat.ne_of_gt (blk_lt (g := gb119) (o := .cells #[.int .i64 ((rd_T45 l0 x14_1).f0), .int .i64 ((rd_T45 l0 x14_1).f1), .int .i64 ((rd_T45 l0 x14_1).f2), .int .i64 ((rd_T45 l0 x14_1).f3), .int .i64 ((rd_T45 l0 x14_1).f4), .int .i64 ((rd_T45 l0 x14_1).f5), .int .i64 ((rd_T45 l0 x14_1).f6), .int .i64 ((rd_T45 l0 x14_1).f7), .string ((rd_T45 l0 x14_1).f8)] 45 (0, 0)) (by (with_reducible repeat (first | refine blk_drewN ?_ _ | refine blk_drew ?_ | refine blk_alloc ?_ _)); refine blk_put (cs := #[.int .i64 ((rd_T45 l0 x14_1).f0), .int .i64 ((rd_T45 l0 x14_1).f1), .int .i64 ((rd_T45 l0 x14_1).f2), .int .i64 ((rd_T45 l0 x14_1).f3), .int .i64 ((rd_T45 l0 x14_1).f4), .int .i64 ((rd_T45 l0 x14_1).f5), .int .i64 ((rd_T45 l0 x14_1).f6), .int .i64 ((rd_T45 l0 x14_1).f7), .string (⟨#[]⟩ : ByteArray)]) ?_ 8 _ rfl; (with_reducible repeat (first | refine blk_drewN ?_ _ | refine blk_drew ?_ | refine blk_alloc ?_ _)); refine blk_put (cs := #[.int .i64 ((rd_T45 l0 x14_1).f0), .int .i64 ((rd_T45 l0 x14_1).f1), .int .i64 ((rd_T45 l0 x14_1).f2), .int .i64 ((rd_T45 l0 x14_1).f3), .int .i64 ((rd_T45 l0 x14_1).f4), .int .i64 ((rd_T45 l0 x14_1).f5), .int .i64 ((rd_T45 l0 x14_1).f6), .int .i64 0, .string (⟨#[]⟩ : ByteArray)]) ?_ 7 _ rfl; (with_reducible repeat (first | refine blk_drewN ?_ _ | refine blk_drew ?_ | refine blk_alloc ?_ _)); refine blk_put (cs := #[.int .i64 ((rd_T45 l0 x14_1).f0), .int .i64 ((rd_T45 l0 x14_1).f1), .int .i64 ((rd_T45 l0 x14_1).f2), .int .i64 ((rd_T45 l0 x14_1).f3), .int .i64 ((rd_T45 l0 x14_1).f4), .int .i64 ((rd_T45 l0 x14_1).f5), .int .i64 0, .int .i64 0, .string (⟨#[]⟩ : ByteArray)]) ?_ 6 _ rfl; (with_reducible repeat (first | refine blk_drewN ?_ _ | refine blk_drew ?_ | refine blk_alloc ?_ _)); refine blk_put (cs := #[.int .i64 ((rd_T45 l0 x14_1).f0), .int .i64 ((rd_T45 l0 x14_1).f1), .int .i64 ((rd_T45 l0 x14_1).f2), .int .i64 ((rd_T45 l0 x14_1).f3), .int .i64 ((rd_T45 l0 x14_1).f4), .int .i64 0, .int .i64 0, .int .i64 0, .string (⟨#[]⟩ : ByteArray)]) ?_ 5 _ rfl; (with_reducible repeat (first | refine blk_drewN ?_ _ | refine blk_drew ?_ | refine blk_alloc ?_ _)); refine blk_put (cs := #[.int .i64 ((rd_T45 l0 x14_1).f0), .int .i64 ((rd_T45 l0 x14_1).f1), .int .i64 ((rd_T45 l0 x14_1).f2), .int .i64 ((rd_T45 l0 x14_1).f3), .int .i64 0, .int .i64 0, .int .i64 0, .int .i64 0, .string (⟨#[]⟩ : ByteArray)]) ?_ 4 _ rfl; (with_reducible repeat (first | refine blk_drewN ?_ _ | refine blk_drew ?_ | refine blk_alloc ?_ _)); refine blk_put (cs := #[.int .i64 ((rd_T45 l0 x14_1).f0), .int .i64 ((rd_T45 l0 x14_1).f1), .int .i64 ((rd_T45 l0 x14_1).f2), .int .i64 0, .int .i64 0, .int .i64 0, .int .i64 0, .int .i64 0, .string (⟨#[]⟩ : ByteArray)]) ?_ 3 _ rfl; (with_reducible repeat (first | refine blk_drewN ?_ _ | refine blk_drew ?_ | refine blk_alloc ?_ _)); refine blk_put (cs := #[.int .i64 ((rd_T45 l0 x14_1).f0), .int .i64 ((rd_T45 l0 x14_1).f1), .int .i64 0, .int .i64 0, .int .i64 0, .int .i64 0, .int .i64 0, .int .i64 0, .string (⟨#[]⟩ : ByteArray)]) ?_ 2 _ rfl; (with_reducible repeat (first | refine blk_drewN ?_ _ | refine blk_drew ?_ | refine blk_alloc ?_ _)); refine blk_put (cs := #[.int .i64 ((rd_T45 l0 x14_1).f0), .int .i64 0, .int .i64 0, .int .i64 0, .int .i64 0, .int .i64 0, .int .i64 0, .int .i64 0, .string (⟨#[]⟩ : ByteArray)]) ?_ 1 _ rfl; (with_reducible repeat (first | refine blk_drewN ?_ _ | refine blk_drew ?_ | refine blk_alloc ?_ _)); refine blk_put (cs := #[.int .i64 0, .int .i64 0, .int .i64 0, .int .i64 0, .int .i64 0, .int .i64 0, .int .i64 0, .int .i64 0, .string (⟨#[]⟩ : ByteArray)]) ?_ 0 _ rfl; (with_reducible repeat (first | refine blk_drewN ?_ _ | refine blk_drew ?_ | refine blk_alloc ?_ _)); exact BK119.out)) : gb121 ≠ gb119)); clear HO_4; clear HO_5; clear BK119; clear HB; have HO_4 := n0_; have HO_5 := n1_; have BK119 := n2_; have HB := n3_; have BK121 := n4_; have GW121 := n5_; have GE121 := n6_; have NB119_121 := n7_; have NB121_119 := n8_; clear n0_ n1_ n2_ n3_ n4_ n5_ n6_ n7_ n8_; clear hb hbox hg; have hnb17 := NB121_119.out; have hnc17 := NB119_121.out; have hcz18_0 : w16.cell? ⟨gb121, 0, none⟩ = some (.int .i64 0) := (blk_cell BK121.out 0).trans rfl; have hcz18_1 : w16.cell? ⟨gb121, 1, none⟩ = some (.int .i64 0) := (blk_cell BK121.out 1).trans rfl; have hcz18_2 : w16.cell? ⟨gb121, 2, none⟩ = some (.int .i64 0) := (blk_cell BK121.out 2).trans rfl; have hcz18_3 : w16.cell? ⟨gb121, 3, none⟩ = some (.int .i64 0) := (blk_cell BK121.out 3).trans rfl; have hcz18_4 : w16.cell? ⟨gb121, 4, none⟩ = some (.int .i64 0) := (blk_cell BK121.out 4).trans rfl; have hfz18_0 := blk_frozen BK121.out 0; have hfz18_1 := blk_frozen BK121.out 1; have hfz18_2 := blk_frozen BK121.out 2; have hfz18_3 := blk_frozen BK121.out 3; have hfz18_4 := blk_frozen BK121.out 4; have hcz19_0 : w16.cell? ⟨gb119, 0, none⟩ = some (.int .i64 ((rd_T45 l0 x14_1).f0)) := (blk_cell BK119.out 0).trans rfl; have hcz19_1 : w16.cell? ⟨gb119, 1, none⟩ = some (.int .i64 ((rd_T45 l0 x14_1).f1)) := (blk_cell BK119.out 1).trans rfl; have hcz19_2 : w16.cell? ⟨gb119, 2, none⟩ = some (.int .i64 ((rd_T45 l0 x14_1).f2)) := (blk_cell BK119.out 2).trans rfl; have hcz19_3 : w16.cell? ⟨gb119, 3, none⟩ = some (.int .i64 ((rd_T45 l0 x14_1).f3)) := (blk_cell BK119.out 3).trans rfl; have hcz19_4 : w16.cell? ⟨gb119, 4, none⟩ = some (.int .i64 ((rd_T45 l0 x14_1).f4)) := (blk_cell BK119.out 4).trans rfl; have hcz19_5 : w16.cell? ⟨gb119, 5, none⟩ = some (.int .i64 ((rd_T45 l0 x14_1).f5)) := (blk_cell BK119.out 5).trans rfl; have hcz19_6 : w16.cell? ⟨gb119, 6, none⟩ = some (.int .i64 ((rd_T45 l0 x14_1).f6)) := (blk_cell BK119.out 6).trans rfl; have hcz19_7 : w16.cell? ⟨gb119, 7, none⟩ = some (.int .i64 ((rd_T45 l0 x14_1).f7)) := (blk_cell BK119.out 7).trans rfl; have hcz19_8 : w16.cell? ⟨gb119, 8, none⟩ = some (.string ((rd_T45 l0 x14_1).f8)) := (blk_cell BK119.out 8).trans rfl; have hfz19_0 := blk_frozen BK119.out 0; have hfz19_1 := blk_frozen BK119.out 1; have hfz19_2 := blk_frozen BK119.out 2; have hfz19_3 := blk_frozen BK119.out 3; have hfz19_4 := blk_frozen BK119.out 4; have hfz19_5 := blk_frozen BK119.out 5; have hfz19_6 := blk_frozen BK119.out 6; have hfz19_7 := blk_frozen BK119.out 7; have hfz19_8 := blk_frozen BK119.out 8))
                (try simp only [Act.put, List.setIfInBounds_toArray, List.set_cons_zero, List.set_cons_succ])
                go_cut [26] (fun v26 wc => ∃ (kq : Nat) (x26_11 : Bool), v26 = .bool x26_11 ∧ Aside0 (raster_Flat.j1 kq x4_1 x5_1 l0 (l0.length : Int) x14_1 ((rd_T45 l0 x14_1).f0) x26_11 ((rd_T45 l0 x14_1).f0) ((rd_T45 l0 x14_1).f1) ((rd_T45 l0 x14_1).f2) ((rd_T45 l0 x14_1).f3) ((rd_T45 l0 x14_1).f4) ((rd_T45 l0 x14_1).f5) ((rd_T45 l0 x14_1).f6) ((rd_T45 l0 x14_1).f7) ((rd_T45 l0 x14_1).f8) ((rd_T129 x4_1 (ji9)).f0.f0) ((rd_T129 x4_1 (ji9)).f0.f1) ((rd_T129 x4_1 (ji9)).f0.f2) ((rd_T129 x4_1 (ji9)).f0.f3) ((rd_T129 x4_1 (ji9)).f1) = some (r1, r2)) ∧ Aside0 (kq ≤ k1) ∧ Aside0 (Kd.R k129 129 wc w.heap.size (fun k_ => k_ ≠ gb121) (.slice (some ad120) x4_1.length co15) x4_1) ∧ Aside0 (Kd.R k72 72 wc w.heap.size (fun _ => True) u5 x5_1) ∧ Aside0 (wc.heap[gb119]? = some (.cells #[.int .i64 ((rd_T45 l0 x14_1).f0), .int .i64 ((rd_T45 l0 x14_1).f1), .int .i64 ((rd_T45 l0 x14_1).f2), .int .i64 ((rd_T45 l0 x14_1).f3), .int .i64 ((rd_T45 l0 x14_1).f4), .int .i64 ((rd_T45 l0 x14_1).f5), .int .i64 ((rd_T45 l0 x14_1).f6), .int .i64 ((rd_T45 l0 x14_1).f7), .string ((rd_T45 l0 x14_1).f8)] 45 (0, 0))) ∧ Aside0 (wc.heap[gb121]? = some (.cells #[.int .i64 ((rd_T129 x4_1 (ji9)).f0.f0), .int .i64 ((rd_T129 x4_1 (ji9)).f0.f1), .int .i64 ((rd_T129 x4_1 (ji9)).f0.f2), .int .i64 ((rd_T129 x4_1 (ji9)).f0.f3), .int .i64 ((rd_T129 x4_1 (ji9)).f1)] 129 (0, 0))) ∧ Aside0 (Below w.heap.size w wc))
                case first =>
                  have H := HC12.out
                  clear HC12
                  by_cases c20 : ((rd_T45 l0 x14_1).f0) = 1
                  · rw [if_pos c20] at H
                    have c20b0 : (((rd_T45 l0 x14_1).f0) == 1) = true := beq_iff_eq.mpr c20
                    have c20b1 : (((rd_T45 l0 x14_1).f0) != 1) = false := bne_eq_false_iff_eq.mpr c20
                    clear c20
                    (first | rw [c20b0] | (simp only [i64_w, i32_w]; rw [c20b0]) | skip)
                    have H' := Aside0.mk H
                    clear H
                    go_wp2
                    go_meet
                    case rel => exact ⟨_, ((((rd_T45 l0 x14_1).f0) == 1)), (by first | rfl | (simp; done) | (simp [*]; done)), H', ⟨by have := HK1.out; first | omega | exact Nat.le_refl _⟩, ⟨by (with_reducible repeat (first | apply Kd.R_alloc | apply Kd.R_drewN | apply Kd.R_drew)); exact Kd.R_mono (Kd.R_far (p := ⟨gb121, 4, none⟩) (Kd.R_far (p := ⟨gb121, 3, none⟩) (Kd.R_far (p := ⟨gb121, 2, none⟩) (Kd.R_far (p := ⟨gb121, 1, none⟩) (Kd.R_far (p := ⟨gb121, 0, none⟩) (Kd.R_mono HO_4.out (fun k_ hk => (⟨hk, hk.2⟩ : _ ∧ k_ ≠ gb121))) (fun _ hk => hk.2) (.int .i64 ((rd_T129 x4_1 (ji9)).f0.f0))) (fun _ hk => hk.2) (.int .i64 ((rd_T129 x4_1 (ji9)).f0.f1))) (fun _ hk => hk.2) (.int .i64 ((rd_T129 x4_1 (ji9)).f0.f2))) (fun _ hk => hk.2) (.int .i64 ((rd_T129 x4_1 (ji9)).f0.f3))) (fun _ hk => hk.2) (.int .i64 ((rd_T129 x4_1 (ji9)).f1))) (fun _ hk => hk.1.2)⟩, ⟨by (with_reducible repeat (first | apply Kd.R_alloc | apply Kd.R_drewN | apply Kd.R_drew)); exact Kd.R_mono (Kd.R_far (p := ⟨gb121, 4, none⟩) (Kd.R_far (p := ⟨gb121, 3, none⟩) (Kd.R_far (p := ⟨gb121, 2, none⟩) (Kd.R_far (p := ⟨gb121, 1, none⟩) (Kd.R_far (p := ⟨gb121, 0, none⟩) (Kd.R_types HO_5.out BK121.out (by decide)) (fun _ hk => hk.2) (.int .i64 ((rd_T129 x4_1 (ji9)).f0.f0))) (fun _ hk => hk.2) (.int .i64 ((rd_T129 x4_1 (ji9)).f0.f1))) (fun _ hk => hk.2) (.int .i64 ((rd_T129 x4_1 (ji9)).f0.f2))) (fun _ hk => hk.2) (.int .i64 ((rd_T129 x4_1 (ji9)).f0.f3))) (fun _ hk => hk.2) (.int .i64 ((rd_T129 x4_1 (ji9)).f1))) (fun _ hk => trivial)⟩, ⟨by (with_reducible repeat (first | refine blk_drewN ?_ _ | refine blk_drew ?_ | refine blk_alloc ?_ _)); refine blk_far ?_ NB119_121.out _; (with_reducible repeat (first | refine blk_drewN ?_ _ | refine blk_drew ?_ | refine blk_alloc ?_ _)); refine blk_far ?_ NB119_121.out _; (with_reducible repeat (first | refine blk_drewN ?_ _ | refine blk_drew ?_ | refine blk_alloc ?_ _)); refine blk_far ?_ NB119_121.out _; (with_reducible repeat (first | refine blk_drewN ?_ _ | refine blk_drew ?_ | refine blk_alloc ?_ _)); refine blk_far ?_ NB119_121.out _; (with_reducible repeat (first | refine blk_drewN ?_ _ | refine blk_drew ?_ | refine blk_alloc ?_ _)); refine blk_far ?_ NB119_121.out _; (with_reducible repeat (first | refine blk_drewN ?_ _ | refine blk_drew ?_ | refine blk_alloc ?_ _)); exact BK119.out⟩, ⟨by (with_reducible repeat (first | refine blk_drewN ?_ _ | refine blk_drew ?_ | refine blk_alloc ?_ _)); refine blk_put (cs := #[.int .i64 ((rd_T129 x4_1 (ji9)).f0.f0), .int .i64 ((rd_T129 x4_1 (ji9)).f0.f1), .int .i64 ((rd_T129 x4_1 (ji9)).f0.f2), .int .i64 ((rd_T129 x4_1 (ji9)).f0.f3), .int .i64 0]) ?_ 4 _ rfl; (with_reducible repeat (first | refine blk_drewN ?_ _ | refine blk_drew ?_ | refine blk_alloc ?_ _)); refine blk_put (cs := #[.int .i64 ((rd_T129 x4_1 (ji9)).f0.f0), .int .i64 ((rd_T129 x4_1 (ji9)).f0.f1), .int .i64 ((rd_T129 x4_1 (ji9)).f0.f2), .int .i64 0, .int .i64 0]) ?_ 3 _ rfl; (with_reducible repeat (first | refine blk_drewN ?_ _ | refine blk_drew ?_ | refine blk_alloc ?_ _)); refine blk_put (cs := #[.int .i64 ((rd_T129 x4_1 (ji9)).f0.f0), .int .i64 ((rd_T129 x4_1 (ji9)).f0.f1), .int .i64 0, .int .i64 0, .int .i64 0]) ?_ 2 _ rfl; (with_reducible repeat (first | refine blk_drewN ?_ _ | refine blk_drew ?_ | refine blk_alloc ?_ _)); refine blk_put (cs := #[.int .i64 ((rd_T129 x4_1 (ji9)).f0.f0), .int .i64 0, .int .i64 0, .int .i64 0, .int .i64 0]) ?_ 1 _ rfl; (with_reducible repeat (first | refine blk_drewN ?_ _ | refine blk_drew ?_ | refine blk_alloc ?_ _)); refine blk_put (cs := #[.int .i64 0, .int .i64 0, .int .i64 0, .int .i64 0, .int .i64 0]) ?_ 0 _ rfl; (with_reducible repeat (first | refine blk_drewN ?_ _ | refine blk_drew ?_ | refine blk_alloc ?_ _)); exact BK121.out⟩, ⟨by repeat (first | (with_reducible first | exact HB.out | apply below_alloc | apply pw_below_drewN | apply below_drew1 | refine below_set ?_ GE119.out | refine below_set ?_ GE121.out) | exact HB.out)⟩⟩
                  · rw [if_neg c20] at H
                    have c20b0 : (((rd_T45 l0 x14_1).f0) == 1) = false := beq_eq_false_iff_ne.mpr c20
                    have c20b1 : (((rd_T45 l0 x14_1).f0) != 1) = true := bne_iff_ne.mpr c20
                    (first | rw [c20b0] | (simp only [i64_w, i32_w]; rw [c20b0]) | skip)
                    have H' := Aside0.mk H
                    clear H
                    go_wp2
                    go_meet
                    case rel => exact ⟨_, ((((rd_T45 l0 x14_1).f0) == 2)), (by first | rfl | (simp; done) | (simp [*]; done)), H', ⟨by have := HK1.out; first | omega | exact Nat.le_refl _⟩, ⟨by (with_reducible repeat (first | apply Kd.R_alloc | apply Kd.R_drewN | apply Kd.R_drew)); exact Kd.R_mono (Kd.R_far (p := ⟨gb121, 4, none⟩) (Kd.R_far (p := ⟨gb121, 3, none⟩) (Kd.R_far (p := ⟨gb121, 2, none⟩) (Kd.R_far (p := ⟨gb121, 1, none⟩) (Kd.R_far (p := ⟨gb121, 0, none⟩) (Kd.R_mono HO_4.out (fun k_ hk => (⟨hk, hk.2⟩ : _ ∧ k_ ≠ gb121))) (fun _ hk => hk.2) (.int .i64 ((rd_T129 x4_1 (ji9)).f0.f0))) (fun _ hk => hk.2) (.int .i64 ((rd_T129 x4_1 (ji9)).f0.f1))) (fun _ hk => hk.2) (.int .i64 ((rd_T129 x4_1 (ji9)).f0.f2))) (fun _ hk => hk.2) (.int .i64 ((rd_T129 x4_1 (ji9)).f0.f3))) (fun _ hk => hk.2) (.int .i64 ((rd_T129 x4_1 (ji9)).f1))) (fun _ hk => hk.1.2)⟩, ⟨by (with_reducible repeat (first | apply Kd.R_alloc | apply Kd.R_drewN | apply Kd.R_drew)); exact Kd.R_mono (Kd.R_far (p := ⟨gb121, 4, none⟩) (Kd.R_far (p := ⟨gb121, 3, none⟩) (Kd.R_far (p := ⟨gb121, 2, none⟩) (Kd.R_far (p := ⟨gb121, 1, none⟩) (Kd.R_far (p := ⟨gb121, 0, none⟩) (Kd.R_types HO_5.out BK121.out (by decide)) (fun _ hk => hk.2) (.int .i64 ((rd_T129 x4_1 (ji9)).f0.f0))) (fun _ hk => hk.2) (.int .i64 ((rd_T129 x4_1 (ji9)).f0.f1))) (fun _ hk => hk.2) (.int .i64 ((rd_T129 x4_1 (ji9)).f0.f2))) (fun _ hk => hk.2) (.int .i64 ((rd_T129 x4_1 (ji9)).f0.f3))) (fun _ hk => hk.2) (.int .i64 ((rd_T129 x4_1 (ji9)).f1))) (fun _ hk => trivial)⟩, ⟨by (with_reducible repeat (first | refine blk_drewN ?_ _ | refine blk_drew ?_ | refine blk_alloc ?_ _)); refine blk_far ?_ NB119_121.out _; (with_reducible repeat (first | refine blk_drewN ?_ _ | refine blk_drew ?_ | refine blk_alloc ?_ _)); refine blk_far ?_ NB119_121.out _; (with_reducible repeat (first | refine blk_drewN ?_ _ | refine blk_drew ?_ | refine blk_alloc ?_ _)); refine blk_far ?_ NB119_121.out _; (with_reducible repeat (first | refine blk_drewN ?_ _ | refine blk_drew ?_ | refine blk_alloc ?_ _)); refine blk_far ?_ NB119_121.out _; (with_reducible repeat (first | refine blk_drewN ?_ _ | refine blk_drew ?_ | refine blk_alloc ?_ _)); refine blk_far ?_ NB119_121.out _; (with_reducible repeat (first | refine blk_drewN ?_ _ | refine blk_drew ?_ | refine blk_alloc ?_ _)); exact BK119.out⟩, ⟨by (with_reducible repeat (first | refine blk_drewN ?_ _ | refine blk_drew ?_ | refine blk_alloc ?_ _)); refine blk_put (cs := #[.int .i64 ((rd_T129 x4_1 (ji9)).f0.f0), .int .i64 ((rd_T129 x4_1 (ji9)).f0.f1), .int .i64 ((rd_T129 x4_1 (ji9)).f0.f2), .int .i64 ((rd_T129 x4_1 (ji9)).f0.f3), .int .i64 0]) ?_ 4 _ rfl; (with_reducible repeat (first | refine blk_drewN ?_ _ | refine blk_drew ?_ | refine blk_alloc ?_ _)); refine blk_put (cs := #[.int .i64 ((rd_T129 x4_1 (ji9)).f0.f0), .int .i64 ((rd_T129 x4_1 (ji9)).f0.f1), .int .i64 ((rd_T129 x4_1 (ji9)).f0.f2), .int .i64 0, .int .i64 0]) ?_ 3 _ rfl; (with_reducible repeat (first | refine blk_drewN ?_ _ | refine blk_drew ?_ | refine blk_alloc ?_ _)); refine blk_put (cs := #[.int .i64 ((rd_T129 x4_1 (ji9)).f0.f0), .int .i64 ((rd_T129 x4_1 (ji9)).f0.f1), .int .i64 0, .int .i64 0, .int .i64 0]) ?_ 2 _ rfl; (with_reducible repeat (first | refine blk_drewN ?_ _ | refine blk_drew ?_ | refine blk_alloc ?_ _)); refine blk_put (cs := #[.int .i64 ((rd_T129 x4_1 (ji9)).f0.f0), .int .i64 0, .int .i64 0, .int .i64 0, .int .i64 0]) ?_ 1 _ rfl; (with_reducible repeat (first | refine blk_drewN ?_ _ | refine blk_drew ?_ | refine blk_alloc ?_ _)); refine blk_put (cs := #[.int .i64 0, .int .i64 0, .int .i64 0, .int .i64 0, .int .i64 0]) ?_ 0 _ rfl; (with_reducible repeat (first | refine blk_drewN ?_ _ | refine blk_drew ?_ | refine blk_alloc ?_ _)); exact BK121.out⟩, ⟨by repeat (first | (with_reducible first | exact HB.out | apply below_alloc | apply pw_below_drewN | apply below_drew1 | refine below_set ?_ GE119.out | refine below_set ?_ GE121.out) | exact HB.out)⟩⟩
                case rest =>
                  clear HC12
                  try clear c1
                  try clear p1
                  try clear q1
                  try clear hx1
                  try clear c2
                  try clear p2
                  try clear c3
                  try clear c5
                  try clear c6
                  try clear c6b0
                  try clear p6
                  try clear c7
                  try clear c7b0
                  try clear c8
                  try clear c8b0
                  try clear c9
                  try clear c10
                  try clear c10b0
                  try clear c11
                  try clear c11b0
                  try clear p11
                  try clear q11
                  try clear hx11
                  try clear p12
                  try clear q12
                  try clear hx12
                  try clear c17
                  try clear c20
                  try clear c20b0
                  try clear c20b1
                  try clear hcz14_0
                  try clear hcz14_1
                  try clear hcz14_2
                  try clear hcz14_3
                  try clear hcz14_4
                  try clear hcz14_5
                  try clear hcz14_6
                  try clear hcz14_7
                  try clear hcz14_8
                  try clear hcz18_0
                  try clear hcz18_1
                  try clear hcz18_2
                  try clear hcz18_3
                  try clear hcz18_4
                  try clear hcz19_0
                  try clear hcz19_1
                  try clear hcz19_2
                  try clear hcz19_3
                  try clear hcz19_4
                  try clear hcz19_5
                  try clear hcz19_6
                  try clear hcz19_7
                  try clear hcz19_8
                  try clear hfz14_0
                  try clear hfz14_1
                  try clear hfz14_2
                  try clear hfz14_3
                  try clear hfz14_4
                  try clear hfz14_5
                  try clear hfz14_6
                  try clear hfz14_7
                  try clear hfz14_8
                  try clear hfz18_0
                  try clear hfz18_1
                  try clear hfz18_2
                  try clear hfz18_3
                  try clear hfz18_4
                  try clear hfz19_0
                  try clear hfz19_1
                  try clear hfz19_2
                  try clear hfz19_3
                  try clear hfz19_4
                  try clear hfz19_5
                  try clear hfz19_6
                  try clear hfz19_7
                  try clear hfz19_8
                  try clear hx118_0
                  try clear hx118_1
                  try clear hx118_2
                  try clear hx118_3
                  try clear hx118_4
                  try clear hx118_5
                  try clear hx118_6
                  try clear hx118_7
                  try clear hx118_8
                  try clear hx120_0
                  try clear hx120_1
                  try clear hx120_2
                  try clear hx120_3
                  try clear hx120_4
                  try clear p118
                  try clear p120
                  try clear p2
                  try clear q118
                  try clear q120
                  obtain ⟨kq, x26_11, rfl, HA, HJ11, HO_4, HO_5, BK119, BK121, HB⟩ := hcut
                  cases kq with
                  | zero => exact absurd HA.out (by simp [raster_Flat.j1])
                  | succ kj11 =>
                    have H := HA.out
                    clear HA
                    simp only [raster_Flat.j1] at H
                    by_cases c21 : x26_11 = true
                    · subst c21
                      have H1 : (if x5_1.length < 1172812402961 then (raster_Flat.l0 kj11 x4_1 (x5_1 ++ [(⟨(⟨((rd_T45 l0 x14_1).f0), ((rd_T45 l0 x14_1).f1), ((rd_T45 l0 x14_1).f2), ((rd_T45 l0 x14_1).f3), ((rd_T45 l0 x14_1).f4), ((rd_T45 l0 x14_1).f5), ((rd_T45 l0 x14_1).f6), ((rd_T45 l0 x14_1).f7), ((rd_T45 l0 x14_1).f8)⟩ : S45), (⟨((rd_T129 x4_1 (ji9)).f0.f0), ((rd_T129 x4_1 (ji9)).f0.f1), ((rd_T129 x4_1 (ji9)).f0.f2), ((rd_T129 x4_1 (ji9)).f0.f3)⟩ : S70), ((rd_T129 x4_1 (ji9)).f1)⟩ : S72)]) l0 (l0.length : Int) (wrap64 (x14_1 + 1))) else (none)) = some (r1, r2) := by rw [if_pos rfl] at H; exact H
                      clear H
                      have H := H1
                      clear H1
                      by_cases c22 : x5_1.length < 1172812402961
                      · rw [if_pos c22] at H
                        have LMc22 := Aside0.mk c22
                        clear c22
                        obtain ⟨y122, hy122⟩ : ∃ y_ : List (S72), y_ = (x5_1 ++ [(⟨(⟨((rd_T45 l0 x14_1).f0), ((rd_T45 l0 x14_1).f1), ((rd_T45 l0 x14_1).f2), ((rd_T45 l0 x14_1).f3), ((rd_T45 l0 x14_1).f4), ((rd_T45 l0 x14_1).f5), ((rd_T45 l0 x14_1).f6), ((rd_T45 l0 x14_1).f7), ((rd_T45 l0 x14_1).f8)⟩ : S45), (⟨((rd_T129 x4_1 (ji9)).f0.f0), ((rd_T129 x4_1 (ji9)).f0.f1), ((rd_T129 x4_1 (ji9)).f0.f2), ((rd_T129 x4_1 (ji9)).f0.f3)⟩ : S70), ((rd_T129 x4_1 (ji9)).f1)⟩ : S72)]) := ⟨_, rfl⟩
                        replace H : (raster_Flat.l0 kj11 x4_1 y122 l0 (l0.length : Int) (wrap64 (x14_1 + 1))) = some (r1, r2) := by first | (rw [hy122]; with_reducible exact H) | (have H2_ := (Option.bind_some _ _).symm.trans H; rw [hy122]; with_reducible exact H2_) | (have H2_ := (Option.bind_some _ _).symm.trans H; with_reducible exact H2_) | with_reducible exact H | (rw [hy122]; exact H) | exact H
                        have Ny122 := Aside0.mk hy122
                        clear hy122
                        have H' := Aside0.mk H
                        clear H
                        have hnb23 := NB119_121.out
                        have hnc23 := NB121_119.out
                        have hcz24_0 : wc.cell? ⟨gb119, 0, none⟩ = some (.int .i64 ((rd_T45 l0 x14_1).f0)) := (blk_cell BK119.out 0).trans rfl
                        have hcz24_1 : wc.cell? ⟨gb119, 1, none⟩ = some (.int .i64 ((rd_T45 l0 x14_1).f1)) := (blk_cell BK119.out 1).trans rfl
                        have hcz24_2 : wc.cell? ⟨gb119, 2, none⟩ = some (.int .i64 ((rd_T45 l0 x14_1).f2)) := (blk_cell BK119.out 2).trans rfl
                        have hcz24_3 : wc.cell? ⟨gb119, 3, none⟩ = some (.int .i64 ((rd_T45 l0 x14_1).f3)) := (blk_cell BK119.out 3).trans rfl
                        have hcz24_4 : wc.cell? ⟨gb119, 4, none⟩ = some (.int .i64 ((rd_T45 l0 x14_1).f4)) := (blk_cell BK119.out 4).trans rfl
                        have hcz24_5 : wc.cell? ⟨gb119, 5, none⟩ = some (.int .i64 ((rd_T45 l0 x14_1).f5)) := (blk_cell BK119.out 5).trans rfl
                        have hcz24_6 : wc.cell? ⟨gb119, 6, none⟩ = some (.int .i64 ((rd_T45 l0 x14_1).f6)) := (blk_cell BK119.out 6).trans rfl
                        have hcz24_7 : wc.cell? ⟨gb119, 7, none⟩ = some (.int .i64 ((rd_T45 l0 x14_1).f7)) := (blk_cell BK119.out 7).trans rfl
                        have hcz24_8 : wc.cell? ⟨gb119, 8, none⟩ = some (.string ((rd_T45 l0 x14_1).f8)) := (blk_cell BK119.out 8).trans rfl
                        have hfz24_0 := blk_frozen BK119.out 0
                        have hfz24_1 := blk_frozen BK119.out 1
                        have hfz24_2 := blk_frozen BK119.out 2
                        have hfz24_3 := blk_frozen BK119.out 3
                        have hfz24_4 := blk_frozen BK119.out 4
                        have hfz24_5 := blk_frozen BK119.out 5
                        have hfz24_6 := blk_frozen BK119.out 6
                        have hfz24_7 := blk_frozen BK119.out 7
                        have hfz24_8 := blk_frozen BK119.out 8
                        have hcz25_0 : wc.cell? ⟨gb121, 0, none⟩ = some (.int .i64 ((rd_T129 x4_1 (ji9)).f0.f0)) := (blk_cell BK121.out 0).trans rfl
                        have hcz25_1 : wc.cell? ⟨gb121, 1, none⟩ = some (.int .i64 ((rd_T129 x4_1 (ji9)).f0.f1)) := (blk_cell BK121.out 1).trans rfl
                        have hcz25_2 : wc.cell? ⟨gb121, 2, none⟩ = some (.int .i64 ((rd_T129 x4_1 (ji9)).f0.f2)) := (blk_cell BK121.out 2).trans rfl
                        have hcz25_3 : wc.cell? ⟨gb121, 3, none⟩ = some (.int .i64 ((rd_T129 x4_1 (ji9)).f0.f3)) := (blk_cell BK121.out 3).trans rfl
                        have hcz25_4 : wc.cell? ⟨gb121, 4, none⟩ = some (.int .i64 ((rd_T129 x4_1 (ji9)).f1)) := (blk_cell BK121.out 4).trans rfl
                        have hfz25_0 := blk_frozen BK121.out 0
                        have hfz25_1 := blk_frozen BK121.out 1
                        have hfz25_2 := blk_frozen BK121.out 2
                        have hfz25_3 := blk_frozen BK121.out 3
                        have hfz25_4 := blk_frozen BK121.out 4
                        go_wp2_with (first | ((with_reducible refine gate_builtin (b := .append) (xs := #[.tmp 29, .tmp 36]) rfl ?_); at_builtin; refine Kd.R_append k72 (w0 := w) w.heap.size rfl (.tmp 29) (.tmp 36) 64 72 (.agg #[(.int .i64 0), (.int .i64 0), (.int .i64 0), (.int .i64 0), (.int .i64 0), (.int .i64 0), (.int .i64 0), (.int .i64 0), (.string ⟨#[]⟩), (.int .i64 0), (.int .i64 0), (.int .i64 0), (.int .i64 0), (.int .i64 0)]) 120 rfl Try.underlying64 info72 rfl (by decide) (by omega) u5 x5_1 (⟨(⟨((rd_T45 l0 x14_1).f0), ((rd_T45 l0 x14_1).f1), ((rd_T45 l0 x14_1).f2), ((rd_T45 l0 x14_1).f3), ((rd_T45 l0 x14_1).f4), ((rd_T45 l0 x14_1).f5), ((rd_T45 l0 x14_1).f6), ((rd_T45 l0 x14_1).f7), ((rd_T45 l0 x14_1).f8)⟩ : S45), (⟨((rd_T129 x4_1 (ji9)).f0.f0), ((rd_T129 x4_1 (ji9)).f0.f1), ((rd_T129 x4_1 (ji9)).f0.f2), ((rd_T129 x4_1 (ji9)).f0.f3)⟩ : S70), ((rd_T129 x4_1 (ji9)).f1)⟩ : S72) [.int .i64 ((rd_T45 l0 x14_1).f0), .int .i64 ((rd_T45 l0 x14_1).f1), .int .i64 ((rd_T45 l0 x14_1).f2), .int .i64 ((rd_T45 l0 x14_1).f3), .int .i64 ((rd_T45 l0 x14_1).f4), .int .i64 ((rd_T45 l0 x14_1).f5), .int .i64 ((rd_T45 l0 x14_1).f6), .int .i64 ((rd_T45 l0 x14_1).f7), .string ((rd_T45 l0 x14_1).f8), .int .i64 ((rd_T129 x4_1 (ji9)).f0.f0), .int .i64 ((rd_T129 x4_1 (ji9)).f0.f1), .int .i64 ((rd_T129 x4_1 (ji9)).f0.f2), .int .i64 ((rd_T129 x4_1 (ji9)).f0.f3), .int .i64 ((rd_T129 x4_1 (ji9)).f1)] (fun _ => True) (fun _ => False) rfl rfl ?aP (fun _ hk => hk.elim) ?aF ?aO ?aB ?aS ?aL ?_; (case aP => exact k72_mkM _ _ _ (⟨(⟨((rd_T45 l0 x14_1).f0), ((rd_T45 l0 x14_1).f1), ((rd_T45 l0 x14_1).f2), ((rd_T45 l0 x14_1).f3), ((rd_T45 l0 x14_1).f4), ((rd_T45 l0 x14_1).f5), ((rd_T45 l0 x14_1).f6), ((rd_T45 l0 x14_1).f7), ((rd_T45 l0 x14_1).f8)⟩ : S45), (⟨((rd_T129 x4_1 (ji9)).f0.f0), ((rd_T129 x4_1 (ji9)).f0.f1), ((rd_T129 x4_1 (ji9)).f0.f2), ((rd_T129 x4_1 (ji9)).f0.f3)⟩ : S70), ((rd_T129 x4_1 (ji9)).f1)⟩ : S72)); (case aB => exact (by repeat (first | (with_reducible first | exact HB.out | apply below_alloc | apply pw_below_drewN | apply below_drew1 | refine below_set ?_ GE119.out | refine below_set ?_ GE121.out) | exact HB.out))); (case aF => exact (fun _ _ => trivial)); (case aO => exact (by (with_reducible repeat (first | apply Kd.R_alloc | apply Kd.R_drewN | apply Kd.R_drew)); exact HO_5.out)); (case aS => exact (below_size (by repeat (first | (with_reducible first | exact HB.out | apply below_alloc | apply pw_below_drewN | apply below_drew1 | refine below_set ?_ GE119.out | refine below_set ?_ GE121.out) | exact HB.out)))); (case aL => have := LMc22.out; omega); intro v123 w26 ho hb hg hat; rw [← Ny122.out] at ho; have n0_ := Aside0.mk (Kd.R_over' (by (with_reducible repeat (first | apply Kd.R_alloc | apply Kd.R_drewN | apply Kd.R_drew)); exact HO_4.out) (Kd.R_typed (by (with_reducible repeat (first | apply Kd.R_alloc | apply Kd.R_drewN | apply Kd.R_drew)); exact HO_5.out)) (by decide) hg); have n1_ := Aside0.mk (blk_grown (g := gb119) (o := .cells #[.int .i64 ((rd_T45 l0 x14_1).f0), .int .i64 ((rd_T45 l0 x14_1).f1), .int .i64 ((rd_T45 l0 x14_1).f2), .int .i64 ((rd_T45 l0 x14_1).f3), .int .i64 ((rd_T45 l0 x14_1).f4), .int .i64 ((rd_T45 l0 x14_1).f5), .int .i64 ((rd_T45 l0 x14_1).f6), .int .i64 ((rd_T45 l0 x14_1).f7), .string ((rd_T45 l0 x14_1).f8)] 45 (0, 0)) (by (with_reducible repeat (first | refine blk_drewN ?_ _ | refine blk_drew ?_ | refine blk_alloc ?_ _)); exact BK119.out) hg (Kd.R_ne HO_5.out BK119.out (by decide))); have n2_ := Aside0.mk (blk_grown (g := gb121) (o := .cells #[.int .i64 ((rd_T129 x4_1 (ji9)).f0.f0), .int .i64 ((rd_T129 x4_1 (ji9)).f0.f1), .int .i64 ((rd_T129 x4_1 (ji9)).f0.f2), .int .i64 ((rd_T129 x4_1 (ji9)).f0.f3), .int .i64 ((rd_T129 x4_1 (ji9)).f1)] 129 (0, 0)) (by (with_reducible repeat (first | refine blk_drewN ?_ _ | refine blk_drew ?_ | refine blk_alloc ?_ _)); exact BK121.out) hg (Kd.R_ne HO_5.out BK121.out (by decide))); have n3_ := Aside0.mk (hb); have n4_ := Aside0.mk (ho); clear HO_4; clear BK119; clear BK121; clear HB; clear HO_5; have HO_4 := n0_; have BK119 := n1_; have BK121 := n2_; have HB := n3_; have HO124 := n4_; clear n0_ n1_ n2_ n3_ n4_; clear ho hb hg hat))
                        go_roundg kj11
                        case measure => have := HK1.out; have := HJ11.out; omega
                        case rel => exact ⟨(x4_1), (y122), (wrap64 (x14_1 + 1)), (by first | rfl | (simp; done) | (simp [*]; done)), H', ⟨by have := HK1.out; have := HJ11.out; omega⟩, ⟨by (with_reducible repeat (first | apply Kd.R_alloc | apply Kd.R_drewN | apply Kd.R_drew)); exact Kd.R_mono HO_4.out (fun _ hk => trivial)⟩, ⟨by (with_reducible repeat (first | apply Kd.R_alloc | apply Kd.R_drewN | apply Kd.R_drew)); exact HO124.out⟩, ⟨by repeat (first | (with_reducible first | exact HB.out | apply below_alloc | apply pw_below_drewN | apply below_drew1 | refine below_set ?_ GE119.out | refine below_set ?_ GE121.out) | exact HB.out)⟩⟩
                      · rw [if_neg c22] at H
                        exact absurd H (by simp)
                    · replace c21 := Bool.eq_false_iff.mpr c21
                      subst c21
                      have H1 : (if ((rd_T45 l0 x14_1).f0) = 3 then ((raster_rect.f ((rd_T45 l0 x14_1).f0) ((rd_T45 l0 x14_1).f1) ((rd_T45 l0 x14_1).f2) ((rd_T45 l0 x14_1).f3) ((rd_T45 l0 x14_1).f4) ((rd_T45 l0 x14_1).f5) ((rd_T45 l0 x14_1).f6) ((rd_T45 l0 x14_1).f7) ((rd_T45 l0 x14_1).f8)).bind fun bt125 => ((raster_meet.f ((rd_T129 x4_1 (ji9)).f0.f0) ((rd_T129 x4_1 (ji9)).f0.f1) ((rd_T129 x4_1 (ji9)).f0.f2) ((rd_T129 x4_1 (ji9)).f0.f3) bt125.1 bt125.2.1 bt125.2.2.1 bt125.2.2.2).bind fun bt129 => (if x4_1.length < 3518437208883 then (raster_Flat.l0 kj11 (x4_1 ++ [(⟨(⟨bt129.1, bt129.2.1, bt129.2.2.1, bt129.2.2.2⟩ : S70), ((rd_T129 x4_1 (ji9)).f1)⟩ : S129)]) x5_1 l0 (l0.length : Int) (wrap64 (x14_1 + 1))) else (none)))) else (if ((rd_T45 l0 x14_1).f0) = 4 then ((raster_part.f ((rd_T45 l0 x14_1).f7)).bind fun t136 => (if x4_1.length < 3518437208883 then (raster_Flat.l0 kj11 (x4_1 ++ [(⟨(⟨((rd_T129 x4_1 (ji9)).f0.f0), ((rd_T129 x4_1 (ji9)).f0.f1), ((rd_T129 x4_1 (ji9)).f0.f2), ((rd_T129 x4_1 (ji9)).f0.f3)⟩ : S70), wrap64 (Int.tdiv (wrap64 (((rd_T129 x4_1 (ji9)).f1) * t136)) 1000)⟩ : S129)]) x5_1 l0 (l0.length : Int) (wrap64 (x14_1 + 1))) else (none))) else (if ((rd_T45 l0 x14_1).f0) = 5 then (if (x4_1.length : Int) = 1 then (some (([] : List (S72)), 3)) else (if 0 ≤ (wrap64 ((x4_1.length : Int) - 1)) then (if (wrap64 ((x4_1.length : Int) - 1)) ≤ (x4_1.length : Int) then (raster_Flat.l0 kj11 (x4_1.take ((wrap64 ((x4_1.length : Int) - 1)) : Int).toNat) x5_1 l0 (l0.length : Int) (wrap64 (x14_1 + 1))) else (none)) else (none))) else (some (([] : List (S72)), 7))))) = some (r1, r2) := by rw [if_neg (show ¬ (false = true) by decide)] at H; exact H
                      clear H
                      have H := H1
                      clear H1
                      by_cases c27 : ((rd_T45 l0 x14_1).f0) = 3
                      · rw [if_pos c27] at H
                        have c27b0 : (((rd_T45 l0 x14_1).f0) == 3) = true := beq_iff_eq.mpr c27
                        have c27b1 : (((rd_T45 l0 x14_1).f0) != 3) = false := bne_eq_false_iff_eq.mpr c27
                        clear c27
                        replace H := Option.bind_eq_some_iff.mp H
                        obtain ⟨⟨t125, t126, t127, t128⟩, A280, H⟩ := H
                        replace H : ((raster_meet.f ((rd_T129 x4_1 (ji9)).f0.f0) ((rd_T129 x4_1 (ji9)).f0.f1) ((rd_T129 x4_1 (ji9)).f0.f2) ((rd_T129 x4_1 (ji9)).f0.f3) t125 t126 t127 t128).bind fun bt129 => (if x4_1.length < 3518437208883 then (raster_Flat.l0 kj11 (x4_1 ++ [(⟨(⟨bt129.1, bt129.2.1, bt129.2.2.1, bt129.2.2.2⟩ : S70), ((rd_T129 x4_1 (ji9)).f1)⟩ : S129)]) x5_1 l0 (l0.length : Int) (wrap64 (x14_1 + 1))) else (none))) = some (r1, r2) := H
                        have A28 := Aside0.mk A280
                        clear A280
                        replace H := Option.bind_eq_some_iff.mp H
                        obtain ⟨⟨t129, t130, t131, t132⟩, A290, H⟩ := H
                        replace H : (if x4_1.length < 3518437208883 then (raster_Flat.l0 kj11 (x4_1 ++ [(⟨(⟨t129, t130, t131, t132⟩ : S70), ((rd_T129 x4_1 (ji9)).f1)⟩ : S129)]) x5_1 l0 (l0.length : Int) (wrap64 (x14_1 + 1))) else (none)) = some (r1, r2) := H
                        have A29 := Aside0.mk A290
                        clear A290
                        by_cases c30 : x4_1.length < 3518437208883
                        · rw [if_pos c30] at H
                          have LMc30 := Aside0.mk c30
                          clear c30
                          obtain ⟨y133, hy133⟩ : ∃ y_ : List (S129), y_ = (x4_1 ++ [(⟨(⟨t129, t130, t131, t132⟩ : S70), ((rd_T129 x4_1 (ji9)).f1)⟩ : S129)]) := ⟨_, rfl⟩
                          replace H : (raster_Flat.l0 kj11 y133 x5_1 l0 (l0.length : Int) (wrap64 (x14_1 + 1))) = some (r1, r2) := by first | (rw [hy133]; with_reducible exact H) | (have H2_ := (Option.bind_some _ _).symm.trans H; rw [hy133]; with_reducible exact H2_) | (have H2_ := (Option.bind_some _ _).symm.trans H; with_reducible exact H2_) | with_reducible exact H | (rw [hy133]; exact H) | exact H
                          have Ny133 := Aside0.mk hy133
                          clear hy133
                          have H' := Aside0.mk H
                          clear H
                          try go_wp2
                          have n0_ := Aside0.mk (Kd.R_drew HO_4.out)
                          have n1_ := Aside0.mk (Kd.R_drew HO_5.out)
                          have n2_ := Aside0.mk (blk_drew BK119.out)
                          have n3_ := Aside0.mk (blk_drew BK121.out)
                          have n4_ := Aside0.mk (below_drew1 HB.out)
                          clear HO_4
                          clear HO_5
                          clear BK119
                          clear BK121
                          clear HB
                          have HO_4 := n0_
                          have HO_5 := n1_
                          have BK119 := n2_
                          have BK121 := n3_
                          have HB := n4_
                          clear n0_ n1_ n2_ n3_ n4_
                          refine start_ (n := 12) (S := fun w' => w'.cell? ⟨gb121, 0, none⟩ = some (.int .i64 ((rd_T129 x4_1 (ji9)).f0.f0)) ∧ w'.cell? ⟨gb121, 1, none⟩ = some (.int .i64 ((rd_T129 x4_1 (ji9)).f0.f1)) ∧ w'.cell? ⟨gb121, 2, none⟩ = some (.int .i64 ((rd_T129 x4_1 (ji9)).f0.f2)) ∧ w'.cell? ⟨gb121, 3, none⟩ = some (.int .i64 ((rd_T129 x4_1 (ji9)).f0.f3)) ∧ w'.cell? ⟨gb121, 4, none⟩ = some (.int .i64 ((rd_T129 x4_1 (ji9)).f1)) ∧ w'.cell? ⟨gb119, 0, none⟩ = some (.int .i64 ((rd_T45 l0 x14_1).f0)) ∧ w'.cell? ⟨gb119, 1, none⟩ = some (.int .i64 ((rd_T45 l0 x14_1).f1)) ∧ w'.cell? ⟨gb119, 2, none⟩ = some (.int .i64 ((rd_T45 l0 x14_1).f2)) ∧ w'.cell? ⟨gb119, 3, none⟩ = some (.int .i64 ((rd_T45 l0 x14_1).f3)) ∧ w'.cell? ⟨gb119, 4, none⟩ = some (.int .i64 ((rd_T45 l0 x14_1).f4)) ∧ w'.cell? ⟨gb119, 5, none⟩ = some (.int .i64 ((rd_T45 l0 x14_1).f5)) ∧ w'.cell? ⟨gb119, 6, none⟩ = some (.int .i64 ((rd_T45 l0 x14_1).f6)) ∧ w'.cell? ⟨gb119, 7, none⟩ = some (.int .i64 ((rd_T45 l0 x14_1).f7)) ∧ w'.cell? ⟨gb119, 8, none⟩ = some (.string ((rd_T45 l0 x14_1).f8))) (ds := []) #[false, false, false, false, false, false, false, false, false, false, false, false] (by kernel_rfl) rfl rfl ⟨(blk_cell BK121.out 0).trans rfl, (blk_cell BK121.out 1).trans rfl, (blk_cell BK121.out 2).trans rfl, (blk_cell BK121.out 3).trans rfl, (blk_cell BK121.out 4).trans rfl, (blk_cell BK119.out 0).trans rfl, (blk_cell BK119.out 1).trans rfl, (blk_cell BK119.out 2).trans rfl, (blk_cell BK119.out 3).trans rfl, (blk_cell BK119.out 4).trans rfl, (blk_cell BK119.out 5).trans rfl, (blk_cell BK119.out 6).trans rfl, (blk_cell BK119.out 7).trans rfl, (blk_cell BK119.out 8).trans rfl⟩ (fun hHeld => ?_); refine with_tabW raster_Flat.tab13 raster_Flat.bits13 (fun HT_ HW_ => ?_)
                          generalize wc.drew = w31 at HO_4 HO_5 BK119 BK121 HB hHeld ⊢
                          refine pure_ (i := 0) (N := some 40) (v := ?_) (a' := ?_) #[true, false, false, false, false, false, false, false, false, false, false, false] rfl rfl (any_of HT_.out (by kernel_rfl)) (fun _ _ _ h => h) (Or.inl ⟨by rfl, ?_⟩) ?_ ?_
                          rotate_left
                          · intro w'
                            go_simp
                            with_reducible rfl
                          rotate_left
                          · simp only [Act.put, List.setIfInBounds_toArray, List.set_cons_zero, List.set_cons_succ, i64_w, i32_w]
                            rfl
                          refine pure_ (i := 1) (N := some 41) (v := ?_) (a' := ?_) #[true, true, false, false, false, false, false, false, false, false, false, false] rfl rfl (any_of HT_.out (by kernel_rfl)) (fun _ _ _ h => h) (Or.inl ⟨by rfl, ?_⟩) ?_ ?_
                          rotate_left
                          · intro w'
                            go_simp
                            with_reducible rfl
                          rotate_left
                          · simp only [Act.put, List.setIfInBounds_toArray, List.set_cons_zero, List.set_cons_succ, i64_w, i32_w]
                            rfl
                          refine pure_ (i := 6) (N := some 46) (v := ?_) (a' := ?_) #[true, true, false, false, false, false, true, false, false, false, false, false] rfl rfl (any_of HT_.out (by kernel_rfl)) (fun _ _ _ h => h) (Or.inl ⟨by rfl, ?_⟩) ?_ ?_
                          rotate_left
                          · intro w'
                            go_simp
                            with_reducible rfl
                          rotate_left
                          · simp only [Act.put, List.setIfInBounds_toArray, List.set_cons_zero, List.set_cons_succ, i64_w, i32_w]
                            rfl
                          refine take_ (i := 2) (N := some 42) (v := ?_) (a' := ?_) #[true, true, true, false, false, false, true, false, false, false, false, false] rfl rfl (take_ofW HT_.out HW_.out (by kernel_rfl)) (fun _ _ _ h => h) (Or.inl ⟨by rfl, ?_⟩) hHeld ?_ ?_
                          rotate_left
                          · rintro w' ⟨s0, s1, s2, s3, s4, s5, s6, s7, s8, s9, s10, s11, s12, s13⟩
                            go_simp
                            with_reducible rfl
                          rotate_left
                          · simp only [Act.put, List.setIfInBounds_toArray, List.set_cons_zero, List.set_cons_succ, i64_w, i32_w]
                            rfl
                          refine take_ (i := 3) (N := some 43) (v := ?_) (a' := ?_) #[true, true, true, true, false, false, true, false, false, false, false, false] rfl rfl (take_ofW HT_.out HW_.out (by kernel_rfl)) (fun _ _ _ h => h) (Or.inl ⟨by rfl, ?_⟩) hHeld ?_ ?_
                          rotate_left
                          · rintro w' ⟨s0, s1, s2, s3, s4, s5, s6, s7, s8, s9, s10, s11, s12, s13⟩
                            go_simp
                            with_reducible rfl
                          rotate_left
                          · simp only [Act.put, List.setIfInBounds_toArray, List.set_cons_zero, List.set_cons_succ, i64_w, i32_w]
                            rfl
                          refine take_ (i := 7) (N := some 47) (v := ?_) (a' := ?_) #[true, true, true, true, false, false, true, true, false, false, false, false] rfl rfl (take_ofW HT_.out HW_.out (by kernel_rfl)) (fun _ _ _ h => h) (Or.inl ⟨by rfl, ?_⟩) hHeld ?_ ?_
                          rotate_left
                          · rintro w' ⟨s0, s1, s2, s3, s4, s5, s6, s7, s8, s9, s10, s11, s12, s13⟩
                            go_simp
                            with_reducible rfl
                          rotate_left
                          · simp only [Act.put, List.setIfInBounds_toArray, List.set_cons_zero, List.set_cons_succ, i64_w, i32_w]
                            rfl
                          refine one_ (i := 4) (N := some 44) #[true, true, true, true, true, false, true, true, false, false, false, false] rfl rfl (one_of HT_.out (by kernel_rfl)) (by decide) (fun K hK => ?_)
                          refine goes_ Try.func93 (by kernel_rfl) rfl #[.agg #[.int .i64 ((rd_T45 l0 x14_1).f0), .int .i64 ((rd_T45 l0 x14_1).f1), .int .i64 ((rd_T45 l0 x14_1).f2), .int .i64 ((rd_T45 l0 x14_1).f3), .int .i64 ((rd_T45 l0 x14_1).f4), .int .i64 ((rd_T45 l0 x14_1).f5), .int .i64 ((rd_T45 l0 x14_1).f6), .int .i64 ((rd_T45 l0 x14_1).f7), .string ((rd_T45 l0 x14_1).f8)]] (by rfl) rfl rfl (by (try simp only [List.map_toArray, List.map_cons, List.map_nil]); first | done | rfl | (simp only [List.length_drop, List.length_take]; rfl)) ?_
                          with_reducible refine (raster_rect.calls ((rd_T45 l0 x14_1).f0) ((rd_T45 l0 x14_1).f1) ((rd_T45 l0 x14_1).f2) ((rd_T45 l0 x14_1).f3) ((rd_T45 l0 x14_1).f4) ((rd_T45 l0 x14_1).f5) ((rd_T45 l0 x14_1).f6) ((rd_T45 l0 x14_1).f7) ((rd_T45 l0 x14_1).f8) t125 t126 t127 t128 _ A28.out).mono ?_
                          rintro e w32 ⟨rfl, hb⟩
                          refine ⟨_, rfl, ?_⟩
                          have n0_ := Aside0.mk (Kd.R_below (by (with_reducible repeat (first | apply Kd.R_alloc | apply Kd.R_drewN | apply Kd.R_drew)); exact HO_4.out) hb)
                          have n1_ := Aside0.mk (Kd.R_below (by (with_reducible repeat (first | apply Kd.R_alloc | apply Kd.R_drewN | apply Kd.R_drew)); exact HO_5.out) hb)
                          have n2_ := Aside0.mk (blk_below (g := gb119) (o := .cells #[.int .i64 ((rd_T45 l0 x14_1).f0), .int .i64 ((rd_T45 l0 x14_1).f1), .int .i64 ((rd_T45 l0 x14_1).f2), .int .i64 ((rd_T45 l0 x14_1).f3), .int .i64 ((rd_T45 l0 x14_1).f4), .int .i64 ((rd_T45 l0 x14_1).f5), .int .i64 ((rd_T45 l0 x14_1).f6), .int .i64 ((rd_T45 l0 x14_1).f7), .string ((rd_T45 l0 x14_1).f8)] 45 (0, 0)) (by (with_reducible repeat (first | refine blk_drewN ?_ _ | refine blk_drew ?_ | refine blk_alloc ?_ _)); exact BK119.out) hb)
                          have n3_ := Aside0.mk (blk_below (g := gb121) (o := .cells #[.int .i64 ((rd_T129 x4_1 (ji9)).f0.f0), .int .i64 ((rd_T129 x4_1 (ji9)).f0.f1), .int .i64 ((rd_T129 x4_1 (ji9)).f0.f2), .int .i64 ((rd_T129 x4_1 (ji9)).f0.f3), .int .i64 ((rd_T129 x4_1 (ji9)).f1)] 129 (0, 0)) (by (with_reducible repeat (first | refine blk_drewN ?_ _ | refine blk_drew ?_ | refine blk_alloc ?_ _)); exact BK121.out) hb)
                          have n4_ := Aside0.mk (below_step (by repeat (first | (with_reducible first | exact HB.out | apply below_alloc | apply pw_below_drewN | apply below_drew1 | refine below_set ?_ GE119.out | refine below_set ?_ GE121.out) | exact HB.out)) hb)
                          clear HO_4
                          clear HO_5
                          clear BK119
                          clear BK121
                          clear HB
                          have HO_4 := n0_
                          have HO_5 := n1_
                          have BK119 := n2_
                          have BK121 := n3_
                          have HB := n4_
                          clear n0_ n1_ n2_ n3_ n4_
                          (try clear hb)
                          (try clear hb2)
                          (try clear hk)
                          (try clear hi)
                          refine hK.out _ _ ⟨(blk_cell BK121.out 0).trans rfl, (blk_cell BK121.out 1).trans rfl, (blk_cell BK121.out 2).trans rfl, (blk_cell BK121.out 3).trans rfl, (blk_cell BK121.out 4).trans rfl, (blk_cell BK119.out 0).trans rfl, (blk_cell BK119.out 1).trans rfl, (blk_cell BK119.out 2).trans rfl, (blk_cell BK119.out 3).trans rfl, (blk_cell BK119.out 4).trans rfl, (blk_cell BK119.out 5).trans rfl, (blk_cell BK119.out 6).trans rfl, (blk_cell BK119.out 7).trans rfl, (blk_cell BK119.out 8).trans rfl⟩ (fun hHeld => ?_)
                          clear hK K
                          refine norm_ (a' := ?_) ?_ ?_
                          rotate_left
                          · show Act.put _ (some 44) _ = _
                            simp only [Act.put, List.setIfInBounds_toArray, List.set_cons_zero, List.set_cons_succ, i64_w, i32_w]
                            rfl
                          refine one_ (i := 5) (N := some 45) #[true, true, true, true, true, true, true, true, false, false, false, false] rfl rfl (one_of HT_.out (by kernel_rfl)) (by decide) (fun K hK => ?_)
                          refine goes_ Try.func92 (by kernel_rfl) rfl #[.agg #[.int .i64 ((rd_T129 x4_1 (ji9)).f0.f0), .int .i64 ((rd_T129 x4_1 (ji9)).f0.f1), .int .i64 ((rd_T129 x4_1 (ji9)).f0.f2), .int .i64 ((rd_T129 x4_1 (ji9)).f0.f3)], .agg #[.int .i64 t125, .int .i64 t126, .int .i64 t127, .int .i64 t128]] (by rfl) rfl rfl (by (try simp only [List.map_toArray, List.map_cons, List.map_nil]); first | done | (simp only [hji9]; rfl) | rfl | (simp only [List.length_drop, List.length_take]; rfl)) ?_
                          with_reducible refine (raster_meet.calls ((rd_T129 x4_1 (ji9)).f0.f0) ((rd_T129 x4_1 (ji9)).f0.f1) ((rd_T129 x4_1 (ji9)).f0.f2) ((rd_T129 x4_1 (ji9)).f0.f3) t125 t126 t127 t128 t129 t130 t131 t132 _ A29.out).mono ?_
                          rintro e w33 ⟨rfl, hb⟩
                          refine ⟨_, rfl, ?_⟩
                          have n0_ := Aside0.mk (Kd.R_below (by (with_reducible repeat (first | apply Kd.R_alloc | apply Kd.R_drewN | apply Kd.R_drew)); exact HO_4.out) hb)
                          have n1_ := Aside0.mk (Kd.R_below (by (with_reducible repeat (first | apply Kd.R_alloc | apply Kd.R_drewN | apply Kd.R_drew)); exact HO_5.out) hb)
                          have n2_ := Aside0.mk (blk_below (g := gb119) (o := .cells #[.int .i64 ((rd_T45 l0 x14_1).f0), .int .i64 ((rd_T45 l0 x14_1).f1), .int .i64 ((rd_T45 l0 x14_1).f2), .int .i64 ((rd_T45 l0 x14_1).f3), .int .i64 ((rd_T45 l0 x14_1).f4), .int .i64 ((rd_T45 l0 x14_1).f5), .int .i64 ((rd_T45 l0 x14_1).f6), .int .i64 ((rd_T45 l0 x14_1).f7), .string ((rd_T45 l0 x14_1).f8)] 45 (0, 0)) (by (with_reducible repeat (first | refine blk_drewN ?_ _ | refine blk_drew ?_ | refine blk_alloc ?_ _)); exact BK119.out) hb)
                          have n3_ := Aside0.mk (blk_below (g := gb121) (o := .cells #[.int .i64 ((rd_T129 x4_1 (ji9)).f0.f0), .int .i64 ((rd_T129 x4_1 (ji9)).f0.f1), .int .i64 ((rd_T129 x4_1 (ji9)).f0.f2), .int .i64 ((rd_T129 x4_1 (ji9)).f0.f3), .int .i64 ((rd_T129 x4_1 (ji9)).f1)] 129 (0, 0)) (by (with_reducible repeat (first | refine blk_drewN ?_ _ | refine blk_drew ?_ | refine blk_alloc ?_ _)); exact BK121.out) hb)
                          have n4_ := Aside0.mk (below_step (by repeat (first | (with_reducible first | exact HB.out | apply below_alloc | apply pw_below_drewN | apply below_drew1 | refine below_set ?_ GE119.out | refine below_set ?_ GE121.out) | exact HB.out)) hb)
                          clear HO_4
                          clear HO_5
                          clear BK119
                          clear BK121
                          clear HB
                          have HO_4 := n0_
                          have HO_5 := n1_
                          have BK119 := n2_
                          have BK121 := n3_
                          have HB := n4_
                          clear n0_ n1_ n2_ n3_ n4_
                          (try clear hb)
                          (try clear hb2)
                          (try clear hk)
                          (try clear hi)
                          refine hK.out _ _ ⟨(blk_cell BK121.out 0).trans rfl, (blk_cell BK121.out 1).trans rfl, (blk_cell BK121.out 2).trans rfl, (blk_cell BK121.out 3).trans rfl, (blk_cell BK121.out 4).trans rfl, (blk_cell BK119.out 0).trans rfl, (blk_cell BK119.out 1).trans rfl, (blk_cell BK119.out 2).trans rfl, (blk_cell BK119.out 3).trans rfl, (blk_cell BK119.out 4).trans rfl, (blk_cell BK119.out 5).trans rfl, (blk_cell BK119.out 6).trans rfl, (blk_cell BK119.out 7).trans rfl, (blk_cell BK119.out 8).trans rfl⟩ (fun hHeld => ?_)
                          clear hK K
                          refine norm_ (a' := ?_) ?_ ?_
                          rotate_left
                          · show Act.put _ (some 45) _ = _
                            simp only [Act.put, List.setIfInBounds_toArray, List.set_cons_zero, List.set_cons_succ, i64_w, i32_w]
                            rfl
                          refine pure_ (i := 8) (N := some 48) (v := ?_) (a' := ?_) #[true, true, true, true, true, true, true, true, true, false, false, false] rfl rfl (any_of HT_.out (by kernel_rfl)) (fun _ _ _ h => h) (Or.inl ⟨by rfl, ?_⟩) ?_ ?_
                          rotate_left
                          · intro w'
                            go_simp
                            with_reducible rfl
                          rotate_left
                          · simp only [Act.put, List.setIfInBounds_toArray, List.set_cons_zero, List.set_cons_succ, i64_w, i32_w]
                            rfl
                          refine one_ (i := 9) (N := some 49) #[true, true, true, true, true, true, true, true, true, true, false, false] rfl rfl (one_of HT_.out (by kernel_rfl)) (by decide) (fun K hK => ?_)
                          refine value_ (w1 := ?_) (v := ?_) (by rfl) rfl ?_ ?_
                          rotate_left 2
                          · go_simp
                            constructor
                            · rfl
                            · rfl
                          refine hK.out _ _ ⟨(blk_cell (blk_alloc BK121.out _) 0).trans rfl, (blk_cell (blk_alloc BK121.out _) 1).trans rfl, (blk_cell (blk_alloc BK121.out _) 2).trans rfl, (blk_cell (blk_alloc BK121.out _) 3).trans rfl, (blk_cell (blk_alloc BK121.out _) 4).trans rfl, (blk_cell (blk_alloc BK119.out _) 0).trans rfl, (blk_cell (blk_alloc BK119.out _) 1).trans rfl, (blk_cell (blk_alloc BK119.out _) 2).trans rfl, (blk_cell (blk_alloc BK119.out _) 3).trans rfl, (blk_cell (blk_alloc BK119.out _) 4).trans rfl, (blk_cell (blk_alloc BK119.out _) 5).trans rfl, (blk_cell (blk_alloc BK119.out _) 6).trans rfl, (blk_cell (blk_alloc BK119.out _) 7).trans rfl, (blk_cell (blk_alloc BK119.out _) 8).trans rfl⟩ (fun hHeld => ?_)
                          clear hK K
                          refine norm_ (a' := ?_) ?_ ?_
                          rotate_left
                          · show Act.put _ (some 49) _ = _
                            simp only [Act.put, List.setIfInBounds_toArray, List.set_cons_zero, List.set_cons_succ, i64_w, i32_w]
                            rfl
                          refine one_ (i := 10) (N := some 50) #[true, true, true, true, true, true, true, true, true, true, true, false] rfl rfl (one_of HT_.out (by kernel_rfl)) (by decide) (fun K hK => ?_)
                          refine Kd.R_append_step k129 (w0 := w) w.heap.size (by rfl) (.tmp 40) (.tmp 49) 130 129 (.agg #[(.int .i64 0), (.int .i64 0), (.int .i64 0), (.int .i64 0), (.int .i64 0)]) 40 rfl Try.underlying130 info129 rfl (by decide) (by omega) (.slice (some ad120) x4_1.length co15) x4_1 (⟨(⟨t129, t130, t131, t132⟩ : S70), ((rd_T129 x4_1 (ji9)).f1)⟩ : S129) [.int .i64 t129, .int .i64 t130, .int .i64 t131, .int .i64 t132, .int .i64 ((rd_T129 x4_1 (ji9)).f1)] (fun k_ => k_ ≠ gb121) (fun _ => False) rfl rfl ?aP (fun _ hk => hk.elim) ?aF ?aO ?aB ?aS ?aL ?_
                          (case aP => exact k129_mkM _ _ _ (⟨(⟨t129, t130, t131, t132⟩ : S70), ((rd_T129 x4_1 (ji9)).f1)⟩ : S129))
                          (case aB => exact (by repeat (first | (with_reducible first | exact HB.out | apply below_alloc | apply pw_below_drewN | apply below_drew1 | refine below_set ?_ GE119.out | refine below_set ?_ GE121.out) | exact HB.out)))
                          (case aF => exact (fun k_ hk => Kd.freshB (g := gb121) (o := .cells #[.int .i64 ((rd_T129 x4_1 (ji9)).f0.f0), .int .i64 ((rd_T129 x4_1 (ji9)).f0.f1), .int .i64 ((rd_T129 x4_1 (ji9)).f0.f2), .int .i64 ((rd_T129 x4_1 (ji9)).f0.f3), .int .i64 ((rd_T129 x4_1 (ji9)).f1)] 129 (0, 0)) (by (with_reducible repeat (first | refine blk_drewN ?_ _ | refine blk_drew ?_ | refine blk_alloc ?_ _)); exact BK121.out) k_ hk))
                          (case aO => exact (by (with_reducible repeat (first | apply Kd.R_alloc | apply Kd.R_drewN | apply Kd.R_drew)); exact HO_4.out))
                          (case aS => exact (below_size (by repeat (first | (with_reducible first | exact HB.out | apply below_alloc | apply pw_below_drewN | apply below_drew1 | refine below_set ?_ GE119.out | refine below_set ?_ GE121.out) | exact HB.out))))
                          (case aL => have := LMc30.out; omega)
                          intro v134 w34 ho hb hg hat
                          rw [← Ny133.out] at ho
                          have n0_ := Aside0.mk (Kd.R_over' (by (with_reducible repeat (first | apply Kd.R_alloc | apply Kd.R_drewN | apply Kd.R_drew)); exact HO_5.out) (Kd.R_typed (by (with_reducible repeat (first | apply Kd.R_alloc | apply Kd.R_drewN | apply Kd.R_drew)); exact HO_4.out)) (by decide) hg)
                          have n1_ := Aside0.mk (blk_grown (g := gb119) (o := .cells #[.int .i64 ((rd_T45 l0 x14_1).f0), .int .i64 ((rd_T45 l0 x14_1).f1), .int .i64 ((rd_T45 l0 x14_1).f2), .int .i64 ((rd_T45 l0 x14_1).f3), .int .i64 ((rd_T45 l0 x14_1).f4), .int .i64 ((rd_T45 l0 x14_1).f5), .int .i64 ((rd_T45 l0 x14_1).f6), .int .i64 ((rd_T45 l0 x14_1).f7), .string ((rd_T45 l0 x14_1).f8)] 45 (0, 0)) (by (with_reducible repeat (first | refine blk_drewN ?_ _ | refine blk_drew ?_ | refine blk_alloc ?_ _)); exact BK119.out) hg (Kd.R_ne HO_4.out BK119.out (by decide)))
                          have n2_ := Aside0.mk (blk_grown (g := gb121) (o := .cells #[.int .i64 ((rd_T129 x4_1 (ji9)).f0.f0), .int .i64 ((rd_T129 x4_1 (ji9)).f0.f1), .int .i64 ((rd_T129 x4_1 (ji9)).f0.f2), .int .i64 ((rd_T129 x4_1 (ji9)).f0.f3), .int .i64 ((rd_T129 x4_1 (ji9)).f1)] 129 (0, 0)) (by (with_reducible repeat (first | refine blk_drewN ?_ _ | refine blk_drew ?_ | refine blk_alloc ?_ _)); exact BK121.out) hg (Kd.R_away HO_4.out (fun _ hk => hk)))
                          have n3_ := Aside0.mk (hb)
                          have n4_ := Aside0.mk (ho)
                          clear HO_5
                          clear BK119
                          clear BK121
                          clear HB
                          clear HO_4
                          have HO_5 := n0_
                          have BK119 := n1_
                          have BK121 := n2_
                          have HB := n3_
                          have HO135 := n4_
                          clear n0_ n1_ n2_ n3_ n4_
                          clear ho hb hg hat
                          refine hK.out _ _ ⟨(blk_cell BK121.out 0).trans rfl, (blk_cell BK121.out 1).trans rfl, (blk_cell BK121.out 2).trans rfl, (blk_cell BK121.out 3).trans rfl, (blk_cell BK121.out 4).trans rfl, (blk_cell BK119.out 0).trans rfl, (blk_cell BK119.out 1).trans rfl, (blk_cell BK119.out 2).trans rfl, (blk_cell BK119.out 3).trans rfl, (blk_cell BK119.out 4).trans rfl, (blk_cell BK119.out 5).trans rfl, (blk_cell BK119.out 6).trans rfl, (blk_cell BK119.out 7).trans rfl, (blk_cell BK119.out 8).trans rfl⟩ (fun hHeld => ?_)
                          clear hK K
                          refine norm_ (a' := ?_) ?_ ?_
                          rotate_left
                          · show Act.put _ (some 50) _ = _
                            simp only [Act.put, List.setIfInBounds_toArray, List.set_cons_zero, List.set_cons_succ, i64_w, i32_w]
                            rfl
                          refine pure_ (i := 11) (N := some 4) (v := ?_) (a' := ?_) #[true, true, true, true, true, true, true, true, true, true, true, true] rfl rfl (any_of HT_.out (by kernel_rfl)) (fun _ _ _ h => h) (Or.inl ⟨by rfl, ?_⟩) ?_ ?_
                          rotate_left
                          · intro w'
                            go_simp
                            with_reducible rfl
                          rotate_left
                          · simp only [Act.put, List.setIfInBounds_toArray, List.set_cons_zero, List.set_cons_succ, i64_w, i32_w]
                            rfl
                          refine done_ (done_of HT_.out (by kernel_rfl)) ?_
                          try go_wp2
                          go_roundg kj11
                          case measure => have := HK1.out; have := HJ11.out; omega
                          case rel => exact ⟨(y133), (x5_1), (wrap64 (x14_1 + 1)), (by first | rfl | (simp; done) | (simp [*]; done)), H', ⟨by have := HK1.out; have := HJ11.out; omega⟩, ⟨by (with_reducible repeat (first | apply Kd.R_alloc | apply Kd.R_drewN | apply Kd.R_drew)); exact Kd.R_mono HO135.out (fun _ hk => trivial)⟩, ⟨by (with_reducible repeat (first | apply Kd.R_alloc | apply Kd.R_drewN | apply Kd.R_drew)); exact HO_5.out⟩, ⟨by repeat (first | (with_reducible first | exact HB.out | apply below_alloc | apply pw_below_drewN | apply below_drew1 | refine below_set ?_ GE119.out | refine below_set ?_ GE121.out) | exact HB.out)⟩⟩
                        · rw [if_neg c30] at H
                          exact absurd H (by simp)
                      · rw [if_neg c27] at H
                        have c27b0 : (((rd_T45 l0 x14_1).f0) == 3) = false := beq_eq_false_iff_ne.mpr c27
                        have c27b1 : (((rd_T45 l0 x14_1).f0) != 3) = true := bne_iff_ne.mpr c27
                        by_cases c35 : ((rd_T45 l0 x14_1).f0) = 4
                        · rw [if_pos c35] at H
                          have c35b0 : (((rd_T45 l0 x14_1).f0) == 4) = true := beq_iff_eq.mpr c35
                          have c35b1 : (((rd_T45 l0 x14_1).f0) != 4) = false := bne_eq_false_iff_eq.mpr c35
                          clear c35
                          replace H := Option.bind_eq_some_iff.mp H
                          obtain ⟨t136, A360, H⟩ := H
                          replace H : (if x4_1.length < 3518437208883 then (raster_Flat.l0 kj11 (x4_1 ++ [(⟨(⟨((rd_T129 x4_1 (ji9)).f0.f0), ((rd_T129 x4_1 (ji9)).f0.f1), ((rd_T129 x4_1 (ji9)).f0.f2), ((rd_T129 x4_1 (ji9)).f0.f3)⟩ : S70), wrap64 (Int.tdiv (wrap64 (((rd_T129 x4_1 (ji9)).f1) * t136)) 1000)⟩ : S129)]) x5_1 l0 (l0.length : Int) (wrap64 (x14_1 + 1))) else (none)) = some (r1, r2) := H
                          have A36 := Aside0.mk A360
                          clear A360
                          by_cases c37 : x4_1.length < 3518437208883
                          · rw [if_pos c37] at H
                            have LMc37 := Aside0.mk c37
                            clear c37
                            obtain ⟨y137, hy137⟩ : ∃ y_ : List (S129), y_ = (x4_1 ++ [(⟨(⟨((rd_T129 x4_1 (ji9)).f0.f0), ((rd_T129 x4_1 (ji9)).f0.f1), ((rd_T129 x4_1 (ji9)).f0.f2), ((rd_T129 x4_1 (ji9)).f0.f3)⟩ : S70), wrap64 (Int.tdiv (wrap64 (((rd_T129 x4_1 (ji9)).f1) * t136)) 1000)⟩ : S129)]) := ⟨_, rfl⟩
                            replace H : (raster_Flat.l0 kj11 y137 x5_1 l0 (l0.length : Int) (wrap64 (x14_1 + 1))) = some (r1, r2) := by first | (rw [hy137]; with_reducible exact H) | (have H2_ := (Option.bind_some _ _).symm.trans H; rw [hy137]; with_reducible exact H2_) | (have H2_ := (Option.bind_some _ _).symm.trans H; with_reducible exact H2_) | with_reducible exact H | (rw [hy137]; exact H) | exact H
                            have Ny137 := Aside0.mk hy137
                            clear hy137
                            have H' := Aside0.mk H
                            clear H
                            try go_wp2
                            have n0_ := Aside0.mk (Kd.R_drew HO_4.out)
                            have n1_ := Aside0.mk (Kd.R_drew HO_5.out)
                            have n2_ := Aside0.mk (blk_drew BK119.out)
                            have n3_ := Aside0.mk (blk_drew BK121.out)
                            have n4_ := Aside0.mk (below_drew1 HB.out)
                            clear HO_4
                            clear HO_5
                            clear BK119
                            clear BK121
                            clear HB
                            have HO_4 := n0_
                            have HO_5 := n1_
                            have BK119 := n2_
                            have BK121 := n3_
                            have HB := n4_
                            clear n0_ n1_ n2_ n3_ n4_
                            refine start_ (n := 14) (S := fun w' => w'.cell? ⟨gb121, 0, none⟩ = some (.int .i64 ((rd_T129 x4_1 (ji9)).f0.f0)) ∧ w'.cell? ⟨gb121, 1, none⟩ = some (.int .i64 ((rd_T129 x4_1 (ji9)).f0.f1)) ∧ w'.cell? ⟨gb121, 2, none⟩ = some (.int .i64 ((rd_T129 x4_1 (ji9)).f0.f2)) ∧ w'.cell? ⟨gb121, 3, none⟩ = some (.int .i64 ((rd_T129 x4_1 (ji9)).f0.f3)) ∧ w'.cell? ⟨gb121, 4, none⟩ = some (.int .i64 ((rd_T129 x4_1 (ji9)).f1)) ∧ w'.cell? ⟨gb119, 0, none⟩ = some (.int .i64 ((rd_T45 l0 x14_1).f0)) ∧ w'.cell? ⟨gb119, 1, none⟩ = some (.int .i64 ((rd_T45 l0 x14_1).f1)) ∧ w'.cell? ⟨gb119, 2, none⟩ = some (.int .i64 ((rd_T45 l0 x14_1).f2)) ∧ w'.cell? ⟨gb119, 3, none⟩ = some (.int .i64 ((rd_T45 l0 x14_1).f3)) ∧ w'.cell? ⟨gb119, 4, none⟩ = some (.int .i64 ((rd_T45 l0 x14_1).f4)) ∧ w'.cell? ⟨gb119, 5, none⟩ = some (.int .i64 ((rd_T45 l0 x14_1).f5)) ∧ w'.cell? ⟨gb119, 6, none⟩ = some (.int .i64 ((rd_T45 l0 x14_1).f6)) ∧ w'.cell? ⟨gb119, 7, none⟩ = some (.int .i64 ((rd_T45 l0 x14_1).f7)) ∧ w'.cell? ⟨gb119, 8, none⟩ = some (.string ((rd_T45 l0 x14_1).f8))) (ds := []) #[false, false, false, false, false, false, false, false, false, false, false, false, false, false] (by kernel_rfl) rfl rfl ⟨(blk_cell BK121.out 0).trans rfl, (blk_cell BK121.out 1).trans rfl, (blk_cell BK121.out 2).trans rfl, (blk_cell BK121.out 3).trans rfl, (blk_cell BK121.out 4).trans rfl, (blk_cell BK119.out 0).trans rfl, (blk_cell BK119.out 1).trans rfl, (blk_cell BK119.out 2).trans rfl, (blk_cell BK119.out 3).trans rfl, (blk_cell BK119.out 4).trans rfl, (blk_cell BK119.out 5).trans rfl, (blk_cell BK119.out 6).trans rfl, (blk_cell BK119.out 7).trans rfl, (blk_cell BK119.out 8).trans rfl⟩ (fun hHeld => ?_); refine with_tabW raster_Flat.tab15 raster_Flat.bits15 (fun HT_ HW_ => ?_)
                            generalize wc.drew = w38 at HO_4 HO_5 BK119 BK121 HB hHeld ⊢
                            refine pure_ (i := 0) (N := some 53) (v := ?_) (a' := ?_) #[true, false, false, false, false, false, false, false, false, false, false, false, false, false] rfl rfl (any_of HT_.out (by kernel_rfl)) (fun _ _ _ h => h) (Or.inl ⟨by rfl, ?_⟩) ?_ ?_
                            rotate_left
                            · intro w'
                              go_simp
                              with_reducible rfl
                            rotate_left
                            · simp only [Act.put, List.setIfInBounds_toArray, List.set_cons_zero, List.set_cons_succ, i64_w, i32_w]
                              rfl
                            refine pure_ (i := 1) (N := some 54) (v := ?_) (a' := ?_) #[true, true, false, false, false, false, false, false, false, false, false, false, false, false] rfl rfl (any_of HT_.out (by kernel_rfl)) (fun _ _ _ h => h) (Or.inl ⟨by rfl, ?_⟩) ?_ ?_
                            rotate_left
                            · intro w'
                              go_simp
                              with_reducible rfl
                            rotate_left
                            · simp only [Act.put, List.setIfInBounds_toArray, List.set_cons_zero, List.set_cons_succ, i64_w, i32_w]
                              rfl
                            refine pure_ (i := 3) (N := some 56) (v := ?_) (a' := ?_) #[true, true, false, true, false, false, false, false, false, false, false, false, false, false] rfl rfl (any_of HT_.out (by kernel_rfl)) (fun _ _ _ h => h) (Or.inl ⟨by rfl, ?_⟩) ?_ ?_
                            rotate_left
                            · intro w'
                              go_simp
                              with_reducible rfl
                            rotate_left
                            · simp only [Act.put, List.setIfInBounds_toArray, List.set_cons_zero, List.set_cons_succ, i64_w, i32_w]
                              rfl
                            refine pure_ (i := 5) (N := some 58) (v := ?_) (a' := ?_) #[true, true, false, true, false, true, false, false, false, false, false, false, false, false] rfl rfl (any_of HT_.out (by kernel_rfl)) (fun _ _ _ h => h) (Or.inl ⟨by rfl, ?_⟩) ?_ ?_
                            rotate_left
                            · intro w'
                              go_simp
                              with_reducible rfl
                            rotate_left
                            · simp only [Act.put, List.setIfInBounds_toArray, List.set_cons_zero, List.set_cons_succ, i64_w, i32_w]
                              rfl
                            refine take_ (i := 2) (N := some 55) (v := ?_) (a' := ?_) #[true, true, true, true, false, true, false, false, false, false, false, false, false, false] rfl rfl (take_ofW HT_.out HW_.out (by kernel_rfl)) (fun _ _ _ h => h) (Or.inl ⟨by rfl, ?_⟩) hHeld ?_ ?_
                            rotate_left
                            · rintro w' ⟨s0, s1, s2, s3, s4, s5, s6, s7, s8, s9, s10, s11, s12, s13⟩
                              go_simp
                              with_reducible rfl
                            rotate_left
                            · simp only [Act.put, List.setIfInBounds_toArray, List.set_cons_zero, List.set_cons_succ, i64_w, i32_w]
                              rfl
                            refine take_ (i := 4) (N := some 57) (v := ?_) (a' := ?_) #[true, true, true, true, true, true, false, false, false, false, false, false, false, false] rfl rfl (take_ofW HT_.out HW_.out (by kernel_rfl)) (fun _ _ _ h => h) (Or.inl ⟨by rfl, ?_⟩) hHeld ?_ ?_
                            rotate_left
                            · rintro w' ⟨s0, s1, s2, s3, s4, s5, s6, s7, s8, s9, s10, s11, s12, s13⟩
                              go_simp
                              with_reducible rfl
                            rotate_left
                            · simp only [Act.put, List.setIfInBounds_toArray, List.set_cons_zero, List.set_cons_succ, i64_w, i32_w]
                              rfl
                            refine take_ (i := 6) (N := some 59) (v := ?_) (a' := ?_) #[true, true, true, true, true, true, true, false, false, false, false, false, false, false] rfl rfl (take_ofW HT_.out HW_.out (by kernel_rfl)) (fun _ _ _ h => h) (Or.inl ⟨by rfl, ?_⟩) hHeld ?_ ?_
                            rotate_left
                            · rintro w' ⟨s0, s1, s2, s3, s4, s5, s6, s7, s8, s9, s10, s11, s12, s13⟩
                              go_simp
                              with_reducible rfl
                            rotate_left
                            · simp only [Act.put, List.setIfInBounds_toArray, List.set_cons_zero, List.set_cons_succ, i64_w, i32_w]
                              rfl
                            refine one_ (i := 7) (N := some 60) #[true, true, true, true, true, true, true, true, false, false, false, false, false, false] rfl rfl (one_of HT_.out (by kernel_rfl)) (by decide) (fun K hK => ?_)
                            refine goes_ Try.func94 (by kernel_rfl) rfl #[.int .i64 ((rd_T45 l0 x14_1).f7)] (by rfl) rfl rfl (by (try simp only [List.map_toArray, List.map_cons, List.map_nil]); first | done | rfl | (simp only [List.length_drop, List.length_take]; rfl)) ?_
                            with_reducible refine (raster_part.calls ((rd_T45 l0 x14_1).f7) t136 _ A36.out).mono ?_
                            rintro e w39 ⟨rfl, hb⟩
                            refine ⟨_, rfl, ?_⟩
                            have n0_ := Aside0.mk (Kd.R_below (by (with_reducible repeat (first | apply Kd.R_alloc | apply Kd.R_drewN | apply Kd.R_drew)); exact HO_4.out) hb)
                            have n1_ := Aside0.mk (Kd.R_below (by (with_reducible repeat (first | apply Kd.R_alloc | apply Kd.R_drewN | apply Kd.R_drew)); exact HO_5.out) hb)
                            have n2_ := Aside0.mk (blk_below (g := gb119) (o := .cells #[.int .i64 ((rd_T45 l0 x14_1).f0), .int .i64 ((rd_T45 l0 x14_1).f1), .int .i64 ((rd_T45 l0 x14_1).f2), .int .i64 ((rd_T45 l0 x14_1).f3), .int .i64 ((rd_T45 l0 x14_1).f4), .int .i64 ((rd_T45 l0 x14_1).f5), .int .i64 ((rd_T45 l0 x14_1).f6), .int .i64 ((rd_T45 l0 x14_1).f7), .string ((rd_T45 l0 x14_1).f8)] 45 (0, 0)) (by (with_reducible repeat (first | refine blk_drewN ?_ _ | refine blk_drew ?_ | refine blk_alloc ?_ _)); exact BK119.out) hb)
                            have n3_ := Aside0.mk (blk_below (g := gb121) (o := .cells #[.int .i64 ((rd_T129 x4_1 (ji9)).f0.f0), .int .i64 ((rd_T129 x4_1 (ji9)).f0.f1), .int .i64 ((rd_T129 x4_1 (ji9)).f0.f2), .int .i64 ((rd_T129 x4_1 (ji9)).f0.f3), .int .i64 ((rd_T129 x4_1 (ji9)).f1)] 129 (0, 0)) (by (with_reducible repeat (first | refine blk_drewN ?_ _ | refine blk_drew ?_ | refine blk_alloc ?_ _)); exact BK121.out) hb)
                            have n4_ := Aside0.mk (below_step (by repeat (first | (with_reducible first | exact HB.out | apply below_alloc | apply pw_below_drewN | apply below_drew1 | refine below_set ?_ GE119.out | refine below_set ?_ GE121.out) | exact HB.out)) hb)
                            clear HO_4
                            clear HO_5
                            clear BK119
                            clear BK121
                            clear HB
                            have HO_4 := n0_
                            have HO_5 := n1_
                            have BK119 := n2_
                            have BK121 := n3_
                            have HB := n4_
                            clear n0_ n1_ n2_ n3_ n4_
                            (try clear hb)
                            (try clear hb2)
                            (try clear hk)
                            (try clear hi)
                            refine hK.out _ _ ⟨(blk_cell BK121.out 0).trans rfl, (blk_cell BK121.out 1).trans rfl, (blk_cell BK121.out 2).trans rfl, (blk_cell BK121.out 3).trans rfl, (blk_cell BK121.out 4).trans rfl, (blk_cell BK119.out 0).trans rfl, (blk_cell BK119.out 1).trans rfl, (blk_cell BK119.out 2).trans rfl, (blk_cell BK119.out 3).trans rfl, (blk_cell BK119.out 4).trans rfl, (blk_cell BK119.out 5).trans rfl, (blk_cell BK119.out 6).trans rfl, (blk_cell BK119.out 7).trans rfl, (blk_cell BK119.out 8).trans rfl⟩ (fun hHeld => ?_)
                            clear hK K
                            refine norm_ (a' := ?_) ?_ ?_
                            rotate_left
                            · show Act.put _ (some 60) _ = _
                              simp only [Act.put, List.setIfInBounds_toArray, List.set_cons_zero, List.set_cons_succ, i64_w, i32_w]
                              rfl
                            refine pure_ (i := 8) (N := some 61) (v := ?_) (a' := ?_) #[true, true, true, true, true, true, true, true, true, false, false, false, false, false] rfl rfl (any_of HT_.out (by kernel_rfl)) (fun _ _ _ h => h) (Or.inl ⟨by rfl, ?_⟩) ?_ ?_
                            rotate_left
                            · intro w'
                              go_simp
                              with_reducible rfl
                            rotate_left
                            · simp only [Act.put, List.setIfInBounds_toArray, List.set_cons_zero, List.set_cons_succ, i64_w, i32_w]
                              rfl
                            refine pure_ (i := 9) (N := some 62) (v := ?_) (a' := ?_) #[true, true, true, true, true, true, true, true, true, true, false, false, false, false] rfl rfl (any_of HT_.out (by kernel_rfl)) (fun _ _ _ h => h) (Or.inl ⟨by rfl, ?_⟩) ?_ ?_
                            rotate_left
                            · intro w'
                              go_simp
                              with_reducible rfl
                            rotate_left
                            · simp only [Act.put, List.setIfInBounds_toArray, List.set_cons_zero, List.set_cons_succ, i64_w, i32_w]
                              rfl
                            refine pure_ (i := 10) (N := some 63) (v := ?_) (a' := ?_) #[true, true, true, true, true, true, true, true, true, true, true, false, false, false] rfl rfl (any_of HT_.out (by kernel_rfl)) (fun _ _ _ h => h) (Or.inl ⟨by rfl, ?_⟩) ?_ ?_
                            rotate_left
                            · intro w'
                              go_simp
                              with_reducible rfl
                            rotate_left
                            · simp only [Act.put, List.setIfInBounds_toArray, List.set_cons_zero, List.set_cons_succ, i64_w, i32_w]
                              rfl
                            refine one_ (i := 11) (N := some 64) #[true, true, true, true, true, true, true, true, true, true, true, true, false, false] rfl rfl (one_of HT_.out (by kernel_rfl)) (by decide) (fun K hK => ?_)
                            refine value_ (w1 := ?_) (v := ?_) (by rfl) rfl ?_ ?_
                            rotate_left 2
                            · go_simp
                              constructor
                              · rfl
                              · rfl
                            refine hK.out _ _ ⟨(blk_cell (blk_alloc BK121.out _) 0).trans rfl, (blk_cell (blk_alloc BK121.out _) 1).trans rfl, (blk_cell (blk_alloc BK121.out _) 2).trans rfl, (blk_cell (blk_alloc BK121.out _) 3).trans rfl, (blk_cell (blk_alloc BK121.out _) 4).trans rfl, (blk_cell (blk_alloc BK119.out _) 0).trans rfl, (blk_cell (blk_alloc BK119.out _) 1).trans rfl, (blk_cell (blk_alloc BK119.out _) 2).trans rfl, (blk_cell (blk_alloc BK119.out _) 3).trans rfl, (blk_cell (blk_alloc BK119.out _) 4).trans rfl, (blk_cell (blk_alloc BK119.out _) 5).trans rfl, (blk_cell (blk_alloc BK119.out _) 6).trans rfl, (blk_cell (blk_alloc BK119.out _) 7).trans rfl, (blk_cell (blk_alloc BK119.out _) 8).trans rfl⟩ (fun hHeld => ?_)
                            clear hK K
                            refine norm_ (a' := ?_) ?_ ?_
                            rotate_left
                            · show Act.put _ (some 64) _ = _
                              simp only [Act.put, List.setIfInBounds_toArray, List.set_cons_zero, List.set_cons_succ, i64_w, i32_w]
                              rfl
                            refine one_ (i := 12) (N := some 65) #[true, true, true, true, true, true, true, true, true, true, true, true, true, false] rfl rfl (one_of HT_.out (by kernel_rfl)) (by decide) (fun K hK => ?_)
                            refine Kd.R_append_step k129 (w0 := w) w.heap.size (by rfl) (.tmp 53) (.tmp 64) 130 129 (.agg #[(.int .i64 0), (.int .i64 0), (.int .i64 0), (.int .i64 0), (.int .i64 0)]) 40 rfl Try.underlying130 info129 rfl (by decide) (by omega) (.slice (some ad120) x4_1.length co15) x4_1 (⟨(⟨((rd_T129 x4_1 (ji9)).f0.f0), ((rd_T129 x4_1 (ji9)).f0.f1), ((rd_T129 x4_1 (ji9)).f0.f2), ((rd_T129 x4_1 (ji9)).f0.f3)⟩ : S70), wrap64 (Int.tdiv (wrap64 (((rd_T129 x4_1 (ji9)).f1) * t136)) 1000)⟩ : S129) [.int .i64 ((rd_T129 x4_1 (ji9)).f0.f0), .int .i64 ((rd_T129 x4_1 (ji9)).f0.f1), .int .i64 ((rd_T129 x4_1 (ji9)).f0.f2), .int .i64 ((rd_T129 x4_1 (ji9)).f0.f3), .int .i64 (wrap64 (Int.tdiv (wrap64 (((rd_T129 x4_1 (ji9)).f1) * t136)) 1000))] (fun k_ => k_ ≠ gb121) (fun _ => False) rfl rfl ?aP (fun _ hk => hk.elim) ?aF ?aO ?aB ?aS ?aL ?_
                            (case aP => exact k129_mkM _ _ _ (⟨(⟨((rd_T129 x4_1 (ji9)).f0.f0), ((rd_T129 x4_1 (ji9)).f0.f1), ((rd_T129 x4_1 (ji9)).f0.f2), ((rd_T129 x4_1 (ji9)).f0.f3)⟩ : S70), wrap64 (Int.tdiv (wrap64 (((rd_T129 x4_1 (ji9)).f1) * t136)) 1000)⟩ : S129))
                            (case aB => exact (by repeat (first | (with_reducible first | exact HB.out | apply below_alloc | apply pw_below_drewN | apply below_drew1 | refine below_set ?_ GE119.out | refine below_set ?_ GE121.out) | exact HB.out)))
                            (case aF => exact (fun k_ hk => Kd.freshB (g := gb121) (o := .cells #[.int .i64 ((rd_T129 x4_1 (ji9)).f0.f0), .int .i64 ((rd_T129 x4_1 (ji9)).f0.f1), .int .i64 ((rd_T129 x4_1 (ji9)).f0.f2), .int .i64 ((rd_T129 x4_1 (ji9)).f0.f3), .int .i64 ((rd_T129 x4_1 (ji9)).f1)] 129 (0, 0)) (by (with_reducible repeat (first | refine blk_drewN ?_ _ | refine blk_drew ?_ | refine blk_alloc ?_ _)); exact BK121.out) k_ hk))
                            (case aO => exact (by (with_reducible repeat (first | apply Kd.R_alloc | apply Kd.R_drewN | apply Kd.R_drew)); exact HO_4.out))
                            (case aS => exact (below_size (by repeat (first | (with_reducible first | exact HB.out | apply below_alloc | apply pw_below_drewN | apply below_drew1 | refine below_set ?_ GE119.out | refine below_set ?_ GE121.out) | exact HB.out))))
                            (case aL => have := LMc37.out; omega)
                            intro v138 w40 ho hb hg hat
                            rw [← Ny137.out] at ho
                            have n0_ := Aside0.mk (Kd.R_over' (by (with_reducible repeat (first | apply Kd.R_alloc | apply Kd.R_drewN | apply Kd.R_drew)); exact HO_5.out) (Kd.R_typed (by (with_reducible repeat (first | apply Kd.R_alloc | apply Kd.R_drewN | apply Kd.R_drew)); exact HO_4.out)) (by decide) hg)
                            have n1_ := Aside0.mk (blk_grown (g := gb119) (o := .cells #[.int .i64 ((rd_T45 l0 x14_1).f0), .int .i64 ((rd_T45 l0 x14_1).f1), .int .i64 ((rd_T45 l0 x14_1).f2), .int .i64 ((rd_T45 l0 x14_1).f3), .int .i64 ((rd_T45 l0 x14_1).f4), .int .i64 ((rd_T45 l0 x14_1).f5), .int .i64 ((rd_T45 l0 x14_1).f6), .int .i64 ((rd_T45 l0 x14_1).f7), .string ((rd_T45 l0 x14_1).f8)] 45 (0, 0)) (by (with_reducible repeat (first | refine blk_drewN ?_ _ | refine blk_drew ?_ | refine blk_alloc ?_ _)); exact BK119.out) hg (Kd.R_ne HO_4.out BK119.out (by decide)))
                            have n2_ := Aside0.mk (blk_grown (g := gb121) (o := .cells #[.int .i64 ((rd_T129 x4_1 (ji9)).f0.f0), .int .i64 ((rd_T129 x4_1 (ji9)).f0.f1), .int .i64 ((rd_T129 x4_1 (ji9)).f0.f2), .int .i64 ((rd_T129 x4_1 (ji9)).f0.f3), .int .i64 ((rd_T129 x4_1 (ji9)).f1)] 129 (0, 0)) (by (with_reducible repeat (first | refine blk_drewN ?_ _ | refine blk_drew ?_ | refine blk_alloc ?_ _)); exact BK121.out) hg (Kd.R_away HO_4.out (fun _ hk => hk)))
                            have n3_ := Aside0.mk (hb)
                            have n4_ := Aside0.mk (ho)
                            clear HO_5
                            clear BK119
                            clear BK121
                            clear HB
                            clear HO_4
                            have HO_5 := n0_
                            have BK119 := n1_
                            have BK121 := n2_
                            have HB := n3_
                            have HO139 := n4_
                            clear n0_ n1_ n2_ n3_ n4_
                            clear ho hb hg hat
                            refine hK.out _ _ ⟨(blk_cell BK121.out 0).trans rfl, (blk_cell BK121.out 1).trans rfl, (blk_cell BK121.out 2).trans rfl, (blk_cell BK121.out 3).trans rfl, (blk_cell BK121.out 4).trans rfl, (blk_cell BK119.out 0).trans rfl, (blk_cell BK119.out 1).trans rfl, (blk_cell BK119.out 2).trans rfl, (blk_cell BK119.out 3).trans rfl, (blk_cell BK119.out 4).trans rfl, (blk_cell BK119.out 5).trans rfl, (blk_cell BK119.out 6).trans rfl, (blk_cell BK119.out 7).trans rfl, (blk_cell BK119.out 8).trans rfl⟩ (fun hHeld => ?_)
                            clear hK K
                            refine norm_ (a' := ?_) ?_ ?_
                            rotate_left
                            · show Act.put _ (some 65) _ = _
                              simp only [Act.put, List.setIfInBounds_toArray, List.set_cons_zero, List.set_cons_succ, i64_w, i32_w]
                              rfl
                            refine pure_ (i := 13) (N := some 4) (v := ?_) (a' := ?_) #[true, true, true, true, true, true, true, true, true, true, true, true, true, true] rfl rfl (any_of HT_.out (by kernel_rfl)) (fun _ _ _ h => h) (Or.inl ⟨by rfl, ?_⟩) ?_ ?_
                            rotate_left
                            · intro w'
                              go_simp
                              with_reducible rfl
                            rotate_left
                            · simp only [Act.put, List.setIfInBounds_toArray, List.set_cons_zero, List.set_cons_succ, i64_w, i32_w]
                              rfl
                            refine done_ (done_of HT_.out (by kernel_rfl)) ?_
                            try go_wp2
                            go_roundg kj11
                            case measure => have := HK1.out; have := HJ11.out; omega
                            case rel => exact ⟨(y137), (x5_1), (wrap64 (x14_1 + 1)), (by first | rfl | (simp; done) | (simp [*]; done)), H', ⟨by have := HK1.out; have := HJ11.out; omega⟩, ⟨by (with_reducible repeat (first | apply Kd.R_alloc | apply Kd.R_drewN | apply Kd.R_drew)); exact Kd.R_mono HO139.out (fun _ hk => trivial)⟩, ⟨by (with_reducible repeat (first | apply Kd.R_alloc | apply Kd.R_drewN | apply Kd.R_drew)); exact HO_5.out⟩, ⟨by repeat (first | (with_reducible first | exact HB.out | apply below_alloc | apply pw_below_drewN | apply below_drew1 | refine below_set ?_ GE119.out | refine below_set ?_ GE121.out) | exact HB.out)⟩⟩
                          · rw [if_neg c37] at H
                            exact absurd H (by simp)
                        · rw [if_neg c35] at H
                          have c35b0 : (((rd_T45 l0 x14_1).f0) == 4) = false := beq_eq_false_iff_ne.mpr c35
                          have c35b1 : (((rd_T45 l0 x14_1).f0) != 4) = true := bne_iff_ne.mpr c35
                          by_cases c41 : ((rd_T45 l0 x14_1).f0) = 5
                          · rw [if_pos c41] at H
                            have c41b0 : (((rd_T45 l0 x14_1).f0) == 5) = true := beq_iff_eq.mpr c41
                            have c41b1 : (((rd_T45 l0 x14_1).f0) != 5) = false := bne_eq_false_iff_eq.mpr c41
                            clear c41
                            by_cases c42 : (x4_1.length : Int) = 1
                            · rw [if_pos c42] at H
                              have c42b0 : ((x4_1.length : Int) == 1) = true := beq_iff_eq.mpr c42
                              have c42b1 : ((x4_1.length : Int) != 1) = false := bne_eq_false_iff_eq.mpr c42
                              clear c42
                              simp only [Option.some.injEq, Prod.mk.injEq] at H
                              obtain ⟨rfl, rfl⟩ := H
                              go_wp2
                              go_ret2
                              exact ⟨_, by first | rfl | (simp [errW_none, errW_some] <;> rfl) | (simp only [← hji9]; first | rfl | (simp [errW_none, errW_some] <;> rfl)) | (simp [*, errW_none, errW_some] <;> rfl), by first | exact Kd.R_nil _ _ _ _ _ | exact Kd.N_nil _ _ _ _ _ | exact Kd.V_nil _ _ _ _ _ | exact Kd.Q_nil _ _ _ _ _ | exact Kd.S_nil _ _ _ _ _, by repeat (first | (with_reducible first | exact HB.out | apply below_alloc | apply pw_below_drewN | apply below_drew1 | refine below_set ?_ GE119.out | refine below_set ?_ GE121.out) | exact HB.out)⟩
                            · rw [if_neg c42] at H
                              have c42b0 : ((x4_1.length : Int) == 1) = false := beq_eq_false_iff_ne.mpr c42
                              have c42b1 : ((x4_1.length : Int) != 1) = true := bne_iff_ne.mpr c42
                              obtain ⟨ji43, hji43⟩ : ∃ j_ : Int, (wrap64 ((x4_1.length : Int) - 1)) = j_ := ⟨_, rfl⟩
                              replace H : (if 0 ≤ (ji43) then (if (ji43) ≤ (x4_1.length : Int) then (raster_Flat.l0 kj11 (x4_1.take ((ji43) : Int).toNat) x5_1 l0 (l0.length : Int) (wrap64 (x14_1 + 1))) else (none)) else (none)) = some (r1, r2) := by first | (rw [hji43] at H; exact H) | (simp only [hji43] at H ⊢; exact H)
                              have hji43w : (IntKind.i64.wrap ((x4_1.length : Int) - 1)) = ji43 := (i64_w _).trans hji43
                              obtain rfl : ji43 = ji9 := hji43.symm.trans hji9
                              by_cases c44 : 0 ≤ (ji43)
                              · rw [if_pos c44] at H
                                have c44b0 := eq_true c44
                                have c44b1 : decide (0 ≤ (ji43)) = true := decide_eq_true c44
                                clear c44
                                by_cases c45 : (ji43) ≤ (x4_1.length : Int)
                                · rw [if_pos c45] at H
                                  have c45b0 := eq_true c45
                                  have c45b1 : decide ((ji43) ≤ (x4_1.length : Int)) = true := decide_eq_true c45
                                  clear c45
                                  obtain ⟨y140, hy140⟩ : ∃ y_ : List (S129), y_ = (x4_1.take ((ji43) : Int).toNat) := ⟨_, rfl⟩
                                  replace H : (raster_Flat.l0 kj11 y140 x5_1 l0 (l0.length : Int) (wrap64 (x14_1 + 1))) = some (r1, r2) := by first | (rw [hy140]; with_reducible exact H) | (have H2_ := (Option.bind_some _ _).symm.trans H; rw [hy140]; with_reducible exact H2_) | (have H2_ := (Option.bind_some _ _).symm.trans H; with_reducible exact H2_) | with_reducible exact H | (rw [hy140]; exact H) | exact H
                                  have Ny140 := Aside0.mk hy140
                                  clear hy140
                                  have H' := Aside0.mk H
                                  clear H
                                  have q46 : ((ji43) : Int) ≤ ((x4_1.length : Int) : Int) := of_decide_eq_true (by first | (with_reducible assumption) | assumption)
                                  obtain ⟨i046, hi046, _, hsz46, _⟩ := info_parts info129
                                  have hcut46 := cut_to (P := Try.prog) 130 129 .i64 Try.underlying130 hi046 (some ad120) x4_1.length co15 (ji43) (of_decide_eq_true (by first | (with_reducible assumption) | assumption)) q46 (Kd.R_reads' HO_4.out).2.1
                                  have hr46 := Kd.R_take (m := ((ji43) : Int).toNat) HO_4.out (by omega)
                                  have hy46 : y140.length = ((ji43) : Int).toNat := (by rw [Ny140.out, List.length_take]; omega)
                                  rw [← Ny140.out] at hr46
                                  rw [← hy46] at hr46 hcut46
                                  clear hy46 hi046 hsz46 HO_4
                                  have HO142 := Aside0.mk hr46
                                  clear hr46
                                  replace q46 := eq_true q46
                                  go_wp2
                                  go_roundg kj11
                                  case measure => have := HK1.out; have := HJ11.out; omega
                                  case rel => exact ⟨(y140), (x5_1), (wrap64 (x14_1 + 1)), (by first | rfl | (simp; done) | (simp [*]; done)), H', ⟨by have := HK1.out; have := HJ11.out; omega⟩, ⟨by (with_reducible repeat (first | apply Kd.R_alloc | apply Kd.R_drewN | apply Kd.R_drew)); exact Kd.R_mono HO142.out (fun _ hk => trivial)⟩, ⟨by (with_reducible repeat (first | apply Kd.R_alloc | apply Kd.R_drewN | apply Kd.R_drew)); exact HO_5.out⟩, ⟨by repeat (first | (with_reducible first | exact HB.out | apply below_alloc | apply pw_below_drewN | apply below_drew1 | refine below_set ?_ GE119.out | refine below_set ?_ GE121.out) | exact HB.out)⟩⟩
                                · rw [if_neg c45] at H
                                  exact absurd H (by simp)
                              · rw [if_neg c44] at H
                                exact absurd H (by simp)
                          · rw [if_neg c41] at H
                            have c41b0 : (((rd_T45 l0 x14_1).f0) == 5) = false := beq_eq_false_iff_ne.mpr c41
                            have c41b1 : (((rd_T45 l0 x14_1).f0) != 5) = true := bne_iff_ne.mpr c41
                            simp only [Option.some.injEq, Prod.mk.injEq] at H
                            obtain ⟨rfl, rfl⟩ := H
                            go_wp2
                            go_ret2
                            exact ⟨_, by first | rfl | (simp [errW_none, errW_some] <;> rfl) | (simp only [← hji9]; first | rfl | (simp [errW_none, errW_some] <;> rfl)) | (simp [*, errW_none, errW_some] <;> rfl), by first | exact Kd.R_nil _ _ _ _ _ | exact Kd.N_nil _ _ _ _ _ | exact Kd.V_nil _ _ _ _ _ | exact Kd.Q_nil _ _ _ _ _ | exact Kd.S_nil _ _ _ _ _, by repeat (first | (with_reducible first | exact HB.out | apply below_alloc | apply pw_below_drewN | apply below_drew1 | refine below_set ?_ GE119.out | refine below_set ?_ GE121.out) | exact HB.out)⟩
              · rw [if_neg c11] at H
                exact absurd H (by simp)
            · rw [if_neg c10] at H
              exact absurd H (by simp)
          · rw [if_neg c8] at H
            exact absurd H (by simp)
        · rw [if_neg c7] at H
          exact absurd H (by simp)
      · rw [if_neg c6] at H
        have c6b0 : decide (x14_1 < (l0.length : Int)) = false := decide_eq_false c6
        clear c6
        by_cases c47 : (x4_1.length : Int) > 1
        · rw [if_pos c47] at H
          have c47b0 : decide (1 < (x4_1.length : Int)) = true := decide_eq_true c47
          have c47b1 : decide (1 < x4_1.length) = true := decide_eq_true (by omega)
          clear c47
          simp only [Option.some.injEq, Prod.mk.injEq] at H
          obtain ⟨rfl, rfl⟩ := H
          obtain ⟨Ao48, co48, eo48⟩ := Kd.R_slice HO_4.out
          subst eo48
          go_wp2
          go_ret2
          exact ⟨_, by first | rfl | (simp [errW_none, errW_some] <;> rfl) | (simp [*, errW_none, errW_some] <;> rfl), by first | exact Kd.R_nil _ _ _ _ _ | exact Kd.N_nil _ _ _ _ _ | exact Kd.V_nil _ _ _ _ _ | exact Kd.Q_nil _ _ _ _ _ | exact Kd.S_nil _ _ _ _ _, by repeat (first | (with_reducible first | exact HB.out | apply below_alloc | apply pw_below_drewN | apply below_drew1) | exact HB.out)⟩
        · rw [if_neg c47] at H
          have c47b0 : decide (1 < (x4_1.length : Int)) = false := decide_eq_false c47
          have c47b1 : decide (1 < x4_1.length) = false := decide_eq_false (by omega)
          clear c47
          simp only [Option.some.injEq, Prod.mk.injEq] at H
          obtain ⟨rfl, rfl⟩ := H
          obtain ⟨Ao49, co49, eo49⟩ := Kd.R_slice HO_4.out
          subst eo49
          go_wp2
          go_ret2
          exact ⟨_, by first | rfl | (simp [errW_none, errW_some] <;> rfl) | (simp [*, errW_none, errW_some] <;> rfl), by (with_reducible repeat (first | apply Kd.R_alloc | apply Kd.R_drewN | apply Kd.R_drew)); exact HO_5.out, by repeat (first | (with_reducible first | exact HB.out | apply below_alloc | apply pw_below_drewN | apply below_drew1) | exact HB.out)⟩

end Go.Proofs.Ytaejmgdpnnhpmaa.QRasterFlat
