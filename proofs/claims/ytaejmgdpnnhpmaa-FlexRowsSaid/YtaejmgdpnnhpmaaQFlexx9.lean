-- Written by a program of this session: a turn of the kit's print over contracts that were proved by hand. Not trusted: Lean checks it.
import Derived.Test.YtaejmgdpnnhpmaaQFlexx0
import Derived.Test.YtaejmgdpnnhpmaaQFlexx1
import Derived.Test.YtaejmgdpnnhpmaaQFlexx5
import Derived.Test.YtaejmgdpnnhpmaaQFlexx6
import Derived.Test.YtaejmgdpnnhpmaaGivMains
namespace Go.Proofs.Ytaejmgdpnnhpmaa.QFlex
open Go.RowKit Go.Proofs.YtaejmgdpnnhpmaaW.PrintWords Go.Proofs.YtaejmgdpnnhpmaaW.PrintLast Go.Proofs.YtaejmgdpnnhpmaaW.PrintMore
attribute [local go_sem] max2_int min2_int max_two min_two max_three min_three max_four min_four   -- for this text's walks alone
set_option linter.unusedVariables false
set_option linter.unusedSimpArgs false

/-! ### clerestorylaw3_flexed: function 26 -/
def clerestorylaw3_flexed.f (k : Nat)  : Option (Bool) := (flex_Mains.f k 100 10 (([(⟨20, 0, (-1), 1000, 0, 0⟩ : S91), (⟨20, 0, (-1), 2000, 0, 0⟩ : S91)] : List (S91)))).bind fun t278 => ((clerestoryref3_Eq_int.f k t278 (([36, 54] : List Int))).bind fun t284 => (some t284))
theorem clerestorylaw3_flexed.mono : ∀ k, LeO (clerestorylaw3_flexed.f k ) (clerestorylaw3_flexed.f (k + 1) ) := by
  intro  k
  unfold clerestorylaw3_flexed.f
  repeat' first
      | (with_reducible exact clerestoryref3_Eq_int.mono _ _ _)
      | (with_reducible exact flex_Mains.mono _ _ _ _)
      | (with_reducible exact LeO.refl _)
      | (with_reducible exact LeO.none _)
      | (with_reducible refine LeO.ite ?_ ?_)
      | (with_reducible refine LeO.bind ?_ (fun _ => ?_))
      | exact clerestoryref3_Eq_int.mono _ _ _
      | exact flex_Mains.mono _ _ _ _
      | exact LeO.none _
      | refine LeO.ite ?_ ?_
      | refine LeO.bind ?_ (fun _ => ?_)
set_option maxHeartbeats 8000000 in
set_option maxRecDepth 100000 in
theorem clerestorylaw3_flexed.calls (k : Nat)  (r : Bool) (w : World) (h : clerestorylaw3_flexed.f k  = some r) :
    Calls Try.prog 26 #[] w fun e w' => e = .returned (.bool r) ∧ Below w.heap.size w w' := by
  have hu91 := Try.underlying91
  have HB := Aside0.mk (Below.refl w.heap.size w)
  have H : ((flex_Mains.f k 100 10 (([(⟨20, 0, (-1), 1000, 0, 0⟩ : S91), (⟨20, 0, (-1), 2000, 0, 0⟩ : S91)] : List (S91)))).bind fun t278 => ((clerestoryref3_Eq_int.f k t278 (([36, 54] : List Int))).bind fun t284 => (some t284))) = some r := h
  clear h
  obtain ⟨y275, hy275⟩ : ∃ y_ : List (S91), y_ = (([(⟨20, 0, (-1), 1000, 0, 0⟩ : S91), (⟨20, 0, (-1), 2000, 0, 0⟩ : S91)] : List (S91))) := ⟨_, rfl⟩
  replace H : ((flex_Mains.f k 100 10 y275).bind fun t278 => ((clerestoryref3_Eq_int.f k t278 (([36, 54] : List Int))).bind fun t284 => (some t284))) = some r := by first | (rw [hy275]; with_reducible exact H) | (have H2_ := (Option.bind_some _ _).symm.trans H; rw [hy275]; with_reducible exact H2_) | (have H2_ := (Option.bind_some _ _).symm.trans H; with_reducible exact H2_) | with_reducible exact H | (rw [hy275]; exact H) | exact H
  have Ny275 := Aside0.mk hy275
  clear hy275
  replace H := Option.bind_eq_some_iff.mp H
  obtain ⟨t278, A10, H⟩ := H
  replace H : ((clerestoryref3_Eq_int.f k t278 (([36, 54] : List Int))).bind fun t284 => (some t284)) = some r := H
  have A1 := Aside0.mk A10
  clear A10
  obtain ⟨y281, hy281⟩ : ∃ y_ : List Int, y_ = (([36, 54] : List Int)) := ⟨_, rfl⟩
  replace H : ((clerestoryref3_Eq_int.f k t278 y281).bind fun t284 => (some t284)) = some r := by first | (rw [hy281]; with_reducible exact H) | (have H2_ := (Option.bind_some _ _).symm.trans H; rw [hy281]; with_reducible exact H2_) | (have H2_ := (Option.bind_some _ _).symm.trans H; with_reducible exact H2_) | with_reducible exact H | (rw [hy281]; exact H) | exact H
  have Ny281 := Aside0.mk hy281
  clear hy281
  replace H := Option.bind_eq_some_iff.mp H
  obtain ⟨t284, A20, H⟩ := H
  replace H : (some t284) = some r := H
  have A2 := Aside0.mk A20
  clear A20
  obtain rfl := Option.some.inj H
  go_enter Try.func26, Try.ntmps26
  go_wp2_with (first | ((with_reducible refine gate_dst (N := 3) rfl ?_); refine Kd.R_lit k91 _ 91 ?hg (N := 3) ?hd (xs := ([(⟨20, 0, (-1), 1000, 0, 0⟩ : S91), (⟨20, 0, (-1), 2000, 0, 0⟩ : S91)] : List (S91))) (inner := [.int .i64 20, .int .i64 0, .int .i64 (-1), .int .i64 1000, .int .i64 0, .int .i64 0, .int .i64 20, .int .i64 0, .int .i64 (-1), .int .i64 2000, .int .i64 0, .int .i64 0]) (ok := fun _ => True) (okp := fun _ => True) ?hr ?hp (fun _ hk => hk) trivial (Below.refl _ _) (Nat.le_refl _) (by simp) ?_; (case hd => rfl); (case hg => rfl); (case hr => first | (go_simp; done) | (go_simp; rfl)); (case hp => exact (Reps.c6 (show Kd.M k91 _ _ _ (⟨20, 0, (-1), 1000, 0, 0⟩ : S91) [.int .i64 20, .int .i64 0, .int .i64 (-1), .int .i64 1000, .int .i64 0, .int .i64 0] from (k91_mkM _ _ _ (⟨20, 0, (-1), 1000, 0, 0⟩ : S91) )) (Reps.c6 (show Kd.M k91 _ _ _ (⟨20, 0, (-1), 2000, 0, 0⟩ : S91) [.int .i64 20, .int .i64 0, .int .i64 (-1), .int .i64 2000, .int .i64 0, .int .i64 0] from (k91_mkM _ _ _ (⟨20, 0, (-1), 2000, 0, 0⟩ : S91) )) (Reps.none _ _)))); intro v276 w3 ho4 hb hg_ hnew_; clear hg_ hnew_; (first | rw [← Ny275.out] at ho4 | (simp only [Int.reduceToNat] at ho4; rw [← Ny275.out] at ho4)); have n0_ := Aside0.mk (Kd.R_lower ho4 (below_size (by repeat (first | (with_reducible first | exact HB.out | apply below_alloc | apply pw_below_drewN | apply below_drew1) | exact HB.out)))); have n1_ := Aside0.mk (below_step (by repeat (first | (with_reducible first | exact HB.out | apply below_alloc | apply pw_below_drewN | apply below_drew1) | exact HB.out)) hb); clear HB; have HO277 := n0_; have HB := n1_; clear n0_ n1_; clear hb ho4; obtain ⟨Ao5, co5, eo5⟩ := Kd.R_slice HO277.out; subst eo5) | ((with_reducible refine gate_callee (f := 28) rfl ?_); refine goesL_ (some 4) rfl rfl Try.func28 (by kernel_rfl) rfl #[.int .i64 100, .int .i64 10, .slice Ao5 y275.length co5] rfl (by (try simp only [List.map_toArray, List.map_cons, List.map_nil]); first | done | rfl | (simp only [List.length_drop, List.length_take]; rfl)) ?_; (with_reducible refine (flex_Mains.calls k 100 10 _ _ y275 t278 _ ?side1 ?side2 A1.out).mono ?_); (case side1 => repeat (first | exact (Kd.R_reads' HO277.out).2.2 | (with_reducible refine Kd.C_alloc ?_ _) | (with_reducible refine Kd.C_drewN ?_ _) | (with_reducible refine Kd.C_drew ?_))); (case side2 => exact (Kd.R_reads' HO277.out).2.1); rintro e w6 ⟨v279, rfl, ho0, hb⟩; refine ⟨_, rfl, ?_⟩; have n0_ := Aside0.mk (Kd.R_below (by (with_reducible repeat (first | apply Kd.R_alloc | apply Kd.R_drewN | apply Kd.R_drew)); exact HO277.out) hb); have n1_ := Aside0.mk (Kd.R_lower ho0 (below_size (by repeat (first | (with_reducible first | exact HB.out | apply below_alloc | apply pw_below_drewN | apply below_drew1) | exact HB.out)))); have n2_ := Aside0.mk (below_step (by repeat (first | (with_reducible first | exact HB.out | apply below_alloc | apply pw_below_drewN | apply below_drew1) | exact HB.out)) hb); clear HO277; clear HB; have HO277 := n0_; have HO280 := n1_; have HB := n2_; clear n0_ n1_ n2_; (try clear hb); (try clear hb2); (try clear hk); (try clear hi); (try clear ho0)) | ((with_reducible refine gate_dst (N := 5) rfl ?_); refine Kd.R_lit (Kd.int .i64) _ 3 ?hg (N := 5) ?hd (xs := ([36, 54] : List Int)) (inner := [.int .i64 36, .int .i64 54]) (ok := fun _ => True) (okp := fun _ => True) ?hr ?hp (fun _ hk => hk) trivial (Below.refl _ _) (Nat.le_refl _) (by simp) ?_; (case hd => rfl); (case hg => rfl); (case hr => first | (go_simp; done) | (go_simp; rfl)); (case hp => exact (Reps.one (show Kd.M (Kd.int .i64) _ _ _ 36 [.int .i64 36] from rfl) (Reps.one (show Kd.M (Kd.int .i64) _ _ _ 54 [.int .i64 54] from rfl) (Reps.none _ _)))); intro v282 w7 ho8 hb hg_ hnew_; clear hg_ hnew_; (first | rw [← Ny281.out] at ho8 | (simp only [Int.reduceToNat] at ho8; rw [← Ny281.out] at ho8)); have n0_ := Aside0.mk (Kd.R_below (by (with_reducible repeat (first | apply Kd.R_alloc | apply Kd.R_drewN | apply Kd.R_drew)); exact HO277.out) hb); have n1_ := Aside0.mk (Kd.R_elder' (by (with_reducible repeat (first | apply Kd.R_alloc | apply Kd.R_drewN | apply Kd.R_drew)); exact HO280.out) (Kd.R_base ho8) hb); have n2_ := Aside0.mk (Kd.R_lower (Kd.R_new' ho8 (Kd.R_lt (by (with_reducible repeat (first | apply Kd.R_alloc | apply Kd.R_drewN | apply Kd.R_drew)); exact HO280.out))) (below_size (by repeat (first | (with_reducible first | exact HB.out | apply below_alloc | apply pw_below_drewN | apply below_drew1) | exact HB.out)))); have n3_ := Aside0.mk (below_step (by repeat (first | (with_reducible first | exact HB.out | apply below_alloc | apply pw_below_drewN | apply below_drew1) | exact HB.out)) hb); clear HO277; clear HO280; clear HB; have HO277 := n0_; have HO280 := n1_; have HO283 := n2_; have HB := n3_; clear n0_ n1_ n2_ n3_; clear hb ho8; obtain ⟨Ao9, co9, eo9⟩ := Kd.R_slice HO280.out; subst eo9; obtain ⟨Ao10, co10, eo10⟩ := Kd.R_slice HO283.out; subst eo10) | ((with_reducible refine gate_callee (f := 27) rfl ?_); refine goesL_ (some 6) rfl rfl Try.func27 (by kernel_rfl) rfl #[.slice Ao9 t278.length co9, .slice Ao10 y281.length co10] rfl (by (try simp only [List.map_toArray, List.map_cons, List.map_nil]); first | done | rfl | (simp only [List.length_drop, List.length_take]; rfl)) ?_; (with_reducible refine (clerestoryref3_Eq_int.calls k _ _ t278 _ _ y281 t284 _ ?side1 ?side2 ?side3 ?side4 A2.out).mono ?_); (case side1 => repeat (first | exact (Kd.R_reads' HO280.out).2.2 | (with_reducible refine Kd.C_alloc ?_ _) | (with_reducible refine Kd.C_drewN ?_ _) | (with_reducible refine Kd.C_drew ?_))); (case side2 => exact (Kd.R_reads' HO280.out).2.1); (case side3 => repeat (first | exact (Kd.R_reads' HO283.out).2.2 | (with_reducible refine Kd.C_alloc ?_ _) | (with_reducible refine Kd.C_drewN ?_ _) | (with_reducible refine Kd.C_drew ?_))); (case side4 => exact (Kd.R_reads' HO283.out).2.1); rintro e w' ⟨rfl, ⟨nd, rfl⟩⟩; refine ⟨_, rfl, ?_⟩))
  go_ret
  exact ⟨by first | rfl | (simp [errW_none, errW_some] <;> rfl) | (simp [*, errW_none, errW_some] <;> rfl), by repeat (first | (with_reducible first | exact HB.out | apply below_alloc | apply pw_below_drewN | apply below_drew1) | exact HB.out)⟩

-- NOT PRINTED: function 29 (clerestoryref3_Mains)

-- NOT PRINTED: function 6 (clerestorylaw3_FlexMains)

/-! ### clerestorylaw3_FlexRows: function 7 -/
def clerestorylaw3_FlexRows.f (k : Nat) (a0 : Int) (a1 : Int) (l2 : List (S91)) (a3 : Bool) : Option (Bool) := if 0 ≤ (mn (l2.length : Int) 50) then (if (mn (l2.length : Int) 50) ≤ (l2.length : Int) then ((some (l2.take ((mn (l2.length : Int) 50) : Int).toNat : List (S91))).bind fun y302 => ((clerestorylaw3_flexed.f k).bind fun t306 => (if t306 = true then ((flex_Rows.f k a0 a1 y302 a3).bind fun t307 => ((clerestoryref3_Rows.f k a0 a1 y302 a3).bind fun t310 => ((clerestoryref3_Eq_int.f k t307 t310).bind fun t313 => (some t313)))) else (some false)))) else (none)) else (none)
theorem clerestorylaw3_FlexRows.mono : ∀ a0 a1 a2 a3 k, LeO (clerestorylaw3_FlexRows.f k a0 a1 a2 a3) (clerestorylaw3_FlexRows.f (k + 1) a0 a1 a2 a3) := by
  intro a0 a1 a2 a3 k
  unfold clerestorylaw3_FlexRows.f
  repeat' first
      | (with_reducible exact clerestorylaw3_flexed.mono _)
      | (with_reducible exact clerestoryref3_Eq_int.mono _ _ _)
      | (with_reducible exact clerestoryref3_Rows.mono _ _ _ _ _)
      | (with_reducible exact flex_Rows.mono _ _ _ _ _)
      | (with_reducible exact LeO.refl _)
      | (with_reducible exact LeO.none _)
      | (with_reducible refine LeO.ite ?_ ?_)
      | (with_reducible refine LeO.bind ?_ (fun _ => ?_))
      | exact clerestorylaw3_flexed.mono _
      | exact clerestoryref3_Eq_int.mono _ _ _
      | exact clerestoryref3_Rows.mono _ _ _ _ _
      | exact flex_Rows.mono _ _ _ _ _
      | exact LeO.none _
      | refine LeO.ite ?_ ?_
      | refine LeO.bind ?_ (fun _ => ?_)
set_option maxHeartbeats 8000000 in
set_option maxRecDepth 100000 in
theorem clerestorylaw3_FlexRows.calls (k : Nat) (a0 : Int) (a1 : Int) (A2 : Option Addr) (c2 : Nat) (l2 : List (S91)) (a3 : Bool) (r : Bool) (w : World) (hr2 : Kd.C k91 w A2 l2.length l2) (hc2 : l2.length ≤ c2) (h : clerestorylaw3_FlexRows.f k a0 a1 l2 a3 = some r) :
    Calls Try.prog 7 #[.int .i64 a0, .int .i64 a1, .slice A2 l2.length c2, .bool a3] w fun e w' => e = .returned (.bool r) ∧ Below w.heap.size w w' := by
  have HR2 := Aside0.mk hr2
  have HC2 := Aside0.mk hc2
  clear hr2 hc2
  have HB := Aside0.mk (Below.refl w.heap.size w)
  have H : (if 0 ≤ (mn (l2.length : Int) 50) then (if (mn (l2.length : Int) 50) ≤ (l2.length : Int) then ((some (l2.take ((mn (l2.length : Int) 50) : Int).toNat : List (S91))).bind fun y302 => ((clerestorylaw3_flexed.f k).bind fun t306 => (if t306 = true then ((flex_Rows.f k a0 a1 y302 a3).bind fun t307 => ((clerestoryref3_Rows.f k a0 a1 y302 a3).bind fun t310 => ((clerestoryref3_Eq_int.f k t307 t310).bind fun t313 => (some t313)))) else (some false)))) else (none)) else (none)) = some r := h
  clear h
  obtain ⟨ji5, hji5⟩ : ∃ j_ : Int, (mn (l2.length : Int) 50) = j_ := ⟨_, rfl⟩
  replace H : (if 0 ≤ (ji5) then (if (ji5) ≤ (l2.length : Int) then ((some (l2.take ((ji5) : Int).toNat : List (S91))).bind fun y302 => ((clerestorylaw3_flexed.f k).bind fun t306 => (if t306 = true then ((flex_Rows.f k a0 a1 y302 a3).bind fun t307 => ((clerestoryref3_Rows.f k a0 a1 y302 a3).bind fun t310 => ((clerestoryref3_Eq_int.f k t307 t310).bind fun t313 => (some t313)))) else (some false)))) else (none)) else (none)) = some r := by first | (rw [hji5] at H; exact H) | (simp only [hji5] at H ⊢; exact H)
  (try (have hji5h : ji5 ≤ 50 := by (rw [← hji5]; unfold mn; (repeat' split) <;> omega)))
  (try (have hji5g : ji5 ≤ 64 := by omega))
  (try (have hji5l : 0 ≤ ji5 := by (rw [← hji5]; unfold mn; (repeat' split) <;> omega)))
  (try (have hji5m : 0 ≤ ji5 := by omega))
  have hji5_ : (if 50 < (l2.length : Int) then 50 else (l2.length : Int)) = ji5 := hji5
  by_cases c6 : 0 ≤ (ji5)
  · rw [if_pos c6] at H
    have c6b0 := eq_true c6
    have c6b1 : decide (0 ≤ (ji5)) = true := decide_eq_true c6
    clear c6
    by_cases c7 : (ji5) ≤ (l2.length : Int)
    · rw [if_pos c7] at H
      have c7b0 := eq_true c7
      have c7b1 : decide ((ji5) ≤ (l2.length : Int)) = true := decide_eq_true c7
      clear c7
      obtain ⟨y302, hy302⟩ : ∃ y_ : List (S91), y_ = (l2.take ((ji5) : Int).toNat) := ⟨_, rfl⟩
      replace H : ((clerestorylaw3_flexed.f k).bind fun t306 => (if t306 = true then ((flex_Rows.f k a0 a1 y302 a3).bind fun t307 => ((clerestoryref3_Rows.f k a0 a1 y302 a3).bind fun t310 => ((clerestoryref3_Eq_int.f k t307 t310).bind fun t313 => (some t313)))) else (some false))) = some r := by first | (rw [hy302]; with_reducible exact H) | (have H2_ := (Option.bind_some _ _).symm.trans H; rw [hy302]; with_reducible exact H2_) | (have H2_ := (Option.bind_some _ _).symm.trans H; with_reducible exact H2_) | with_reducible exact H | (rw [hy302]; exact H) | exact H
      have Ny302 := Aside0.mk hy302
      clear hy302
      replace H := Option.bind_eq_some_iff.mp H
      obtain ⟨t306, A80, H⟩ := H
      replace H : (if t306 = true then ((flex_Rows.f k a0 a1 y302 a3).bind fun t307 => ((clerestoryref3_Rows.f k a0 a1 y302 a3).bind fun t310 => ((clerestoryref3_Eq_int.f k t307 t310).bind fun t313 => (some t313)))) else (some false)) = some r := H
      have A8 := Aside0.mk A80
      clear A80
      by_cases c9 : t306 = true
      · subst c9
        have H1 : ((flex_Rows.f k a0 a1 y302 a3).bind fun t307 => ((clerestoryref3_Rows.f k a0 a1 y302 a3).bind fun t310 => ((clerestoryref3_Eq_int.f k t307 t310).bind fun t313 => (some t313)))) = some r := by rw [if_pos rfl] at H; exact H
        clear H
        have H := H1
        clear H1
        replace H := Option.bind_eq_some_iff.mp H
        obtain ⟨t307, A100, H⟩ := H
        replace H : ((clerestoryref3_Rows.f k a0 a1 y302 a3).bind fun t310 => ((clerestoryref3_Eq_int.f k t307 t310).bind fun t313 => (some t313))) = some r := H
        have A10 := Aside0.mk A100
        clear A100
        replace H := Option.bind_eq_some_iff.mp H
        obtain ⟨t310, A110, H⟩ := H
        replace H : ((clerestoryref3_Eq_int.f k t307 t310).bind fun t313 => (some t313)) = some r := H
        have A11 := Aside0.mk A110
        clear A110
        replace H := Option.bind_eq_some_iff.mp H
        obtain ⟨t313, A120, H⟩ := H
        replace H : (some t313) = some r := H
        have A12 := Aside0.mk A120
        clear A120
        obtain rfl := Option.some.inj H
        have q13 : ((ji5) : Int) ≤ ((l2.length : Int) : Int) := of_decide_eq_true (by first | (with_reducible assumption) | assumption)
        obtain ⟨i013, hi013, _, hsz13, _⟩ := info_parts info91
        have hroom13 : l2.length ≤ c2 := HC2.out
        have hC13 : Kd.C k91 _ A2 l2.length l2 := HR2.out
        have hcut13 := cut_to (P := Try.prog) 49 91 .i64 Try.underlying49 hi013 A2 l2.length c2 (ji5) (of_decide_eq_true (by first | (with_reducible assumption) | assumption)) q13 hroom13
        have hr13 := Kd.C_take (m := ((ji5) : Int).toNat) hC13 (by omega)
        have hy13 : y302.length = ((ji5) : Int).toNat := (by rw [Ny302.out, List.length_take]; omega)
        rw [← Ny302.out] at hr13
        rw [← hy13] at hcut13
        have HR305 := Aside0.mk hr13
        have HC305 := Aside0.mk (show y302.length ≤ c2 from by omega)
        clear hr13 hC13 hroom13 hi013 hsz13
        have KY13 := Aside0.mk hy13
        clear hy13
        replace q13 := eq_true q13
        go_enter Try.func7, Try.ntmps7
        go_wp2_with (first | ((with_reducible refine gate_callee (f := 26) rfl ?_); refine goesL_ (some 14) rfl rfl Try.func26 (by kernel_rfl) rfl #[] rfl (by (try simp only [List.map_toArray, List.map_cons, List.map_nil]); first | done | rfl | (simp only [List.length_drop, List.length_take]; rfl)) ?_; (with_reducible refine (clerestorylaw3_flexed.calls k  true _ A8.out).mono ?_); rintro e w14 ⟨rfl, hb⟩; refine ⟨_, rfl, ?_⟩; have n0_ := Aside0.mk (below_step (by repeat (first | (with_reducible first | exact HB.out | apply below_alloc | apply pw_below_drewN | apply below_drew1) | exact HB.out)) hb); clear HB; have HB := n0_; clear n0_; (try clear hb); (try clear hb2); (try clear hk); (try clear hi)) | (go_at_call 30; (with_reducible refine (flex_Rows.calls k a0 a1 _ _ y302 a3 t307 _ ?side1 ?side2 A10.out).mono ?_); (case side1 => repeat (first | exact (Kd.C_below HR305.out HB.out) | (with_reducible refine Kd.C_alloc ?_ _) | (with_reducible refine Kd.C_drewN ?_ _) | (with_reducible refine Kd.C_drew ?_))); (case side2 => exact HC305.out); rintro e w15 ⟨v308, rfl, ho0, hb⟩; have n0_ := Aside0.mk (Kd.R_lower ho0 (below_size (by repeat (first | (with_reducible first | exact HB.out | apply below_alloc | apply pw_below_drewN | apply below_drew1) | exact HB.out)))); have n1_ := Aside0.mk (below_step (by repeat (first | (with_reducible first | exact HB.out | apply below_alloc | apply pw_below_drewN | apply below_drew1) | exact HB.out)) hb); clear HB; have HO309 := n0_; have HB := n1_; clear n0_ n1_; (try clear hb); (try clear hb2); (try clear hk); (try clear hi); (try clear ho0)) | (go_at_call 31; (with_reducible refine (clerestoryref3_Rows.calls k a0 a1 _ _ y302 a3 t310 _ ?side1 ?side2 A11.out).mono ?_); (case side1 => repeat (first | exact (Kd.C_below HR305.out HB.out) | (with_reducible refine Kd.C_alloc ?_ _) | (with_reducible refine Kd.C_drewN ?_ _) | (with_reducible refine Kd.C_drew ?_))); (case side2 => exact HC305.out); rintro e w16 ⟨v311, rfl, ho0, hb⟩; have n0_ := Aside0.mk (Kd.R_elder' (by (with_reducible repeat (first | apply Kd.R_alloc | apply Kd.R_drewN | apply Kd.R_drew)); exact HO309.out) (Kd.R_base ho0) hb); have n1_ := Aside0.mk (Kd.R_lower (Kd.R_new' ho0 (Kd.R_lt (by (with_reducible repeat (first | apply Kd.R_alloc | apply Kd.R_drewN | apply Kd.R_drew)); exact HO309.out))) (below_size (by repeat (first | (with_reducible first | exact HB.out | apply below_alloc | apply pw_below_drewN | apply below_drew1) | exact HB.out)))); have n2_ := Aside0.mk (below_step (by repeat (first | (with_reducible first | exact HB.out | apply below_alloc | apply pw_below_drewN | apply below_drew1) | exact HB.out)) hb); clear HO309; clear HB; have HO309 := n0_; have HO312 := n1_; have HB := n2_; clear n0_ n1_ n2_; (try clear hb); (try clear hb2); (try clear hk); (try clear hi); (try clear ho0); obtain ⟨Ao17, co17, eo17⟩ := Kd.R_slice HO309.out; subst eo17; obtain ⟨Ao18, co18, eo18⟩ := Kd.R_slice HO312.out; subst eo18) | (go_at_call 27; (with_reducible refine (clerestoryref3_Eq_int.calls k _ _ t307 _ _ t310 t313 _ ?side1 ?side2 ?side3 ?side4 A12.out).mono ?_); (case side1 => repeat (first | exact (Kd.R_reads' HO309.out).2.2 | (with_reducible refine Kd.C_alloc ?_ _) | (with_reducible refine Kd.C_drewN ?_ _) | (with_reducible refine Kd.C_drew ?_))); (case side2 => exact (Kd.R_reads' HO309.out).2.1); (case side3 => repeat (first | exact (Kd.R_reads' HO312.out).2.2 | (with_reducible refine Kd.C_alloc ?_ _) | (with_reducible refine Kd.C_drewN ?_ _) | (with_reducible refine Kd.C_drew ?_))); (case side4 => exact (Kd.R_reads' HO312.out).2.1); rintro e w' ⟨rfl, ⟨nd, rfl⟩⟩))
        go_ret
        exact ⟨by first | rfl | (simp [errW_none, errW_some] <;> rfl) | (simp only [← hji5]; first | rfl | (simp [errW_none, errW_some] <;> rfl)) | (simp [*, errW_none, errW_some] <;> rfl), by repeat (first | (with_reducible first | exact HB.out | apply below_alloc | apply pw_below_drewN | apply below_drew1) | exact HB.out)⟩
      · replace c9 := Bool.eq_false_iff.mpr c9
        subst c9
        have H1 : (some false) = some r := by rw [if_neg (show ¬ (false = true) by decide)] at H; exact H
        clear H
        have H := H1
        clear H1
        obtain rfl := Option.some.inj H
        have q19 : ((ji5) : Int) ≤ ((l2.length : Int) : Int) := of_decide_eq_true (by first | (with_reducible assumption) | assumption)
        obtain ⟨i019, hi019, _, hsz19, _⟩ := info_parts info91
        have hroom19 : l2.length ≤ c2 := HC2.out
        have hC19 : Kd.C k91 _ A2 l2.length l2 := HR2.out
        have hcut19 := cut_to (P := Try.prog) 49 91 .i64 Try.underlying49 hi019 A2 l2.length c2 (ji5) (of_decide_eq_true (by first | (with_reducible assumption) | assumption)) q19 hroom19
        have hr19 := Kd.C_take (m := ((ji5) : Int).toNat) hC19 (by omega)
        have hy19 : y302.length = ((ji5) : Int).toNat := (by rw [Ny302.out, List.length_take]; omega)
        rw [← Ny302.out] at hr19
        rw [← hy19] at hcut19
        have HR305 := Aside0.mk hr19
        have HC305 := Aside0.mk (show y302.length ≤ c2 from by omega)
        clear hr19 hC19 hroom19 hi019 hsz19
        have KY19 := Aside0.mk hy19
        clear hy19
        replace q19 := eq_true q19
        go_enter Try.func7, Try.ntmps7
        go_wp2_with (first | ((with_reducible refine gate_callee (f := 26) rfl ?_); refine goesL_ (some 14) rfl rfl Try.func26 (by kernel_rfl) rfl #[] rfl (by (try simp only [List.map_toArray, List.map_cons, List.map_nil]); first | done | rfl | (simp only [List.length_drop, List.length_take]; rfl)) ?_; (with_reducible refine (clerestorylaw3_flexed.calls k  false _ A8.out).mono ?_); rintro e w20 ⟨rfl, hb⟩; refine ⟨_, rfl, ?_⟩; have n0_ := Aside0.mk (below_step (by repeat (first | (with_reducible first | exact HB.out | apply below_alloc | apply pw_below_drewN | apply below_drew1) | exact HB.out)) hb); clear HB; have HB := n0_; clear n0_; (try clear hb); (try clear hb2); (try clear hk); (try clear hi)))
        go_ret
        exact ⟨by first | rfl | (simp [errW_none, errW_some] <;> rfl) | (simp only [← hji5]; first | rfl | (simp [errW_none, errW_some] <;> rfl)) | (simp [*, errW_none, errW_some] <;> rfl), by repeat (first | (with_reducible first | exact HB.out | apply below_alloc | apply pw_below_drewN | apply below_drew1) | exact HB.out)⟩
    · rw [if_neg c7] at H
      exact absurd H (by simp)
  · rw [if_neg c6] at H
    exact absurd H (by simp)

-- NOT PRINTED: function 32 (flex_Spread)

-- NOT PRINTED: function 8 (clerestorylaw3_FlexSpread)

end Go.Proofs.Ytaejmgdpnnhpmaa.QFlex
