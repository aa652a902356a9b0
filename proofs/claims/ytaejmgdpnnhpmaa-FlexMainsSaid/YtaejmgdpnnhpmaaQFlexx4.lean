-- Written by a program of this session: a turn of the kit's print over contracts that were proved by hand. Not trusted: Lean checks it.
import Derived.Test.YtaejmgdpnnhpmaaQFlexx0
import Derived.Test.YtaejmgdpnnhpmaaCallT
import Derived.Test.YtaejmgdpnnhpmaaQFlexx2
import Derived.Test.YtaejmgdpnnhpmaaQFlexx3
import Derived.Test.YtaejmgdpnnhpmaaGivShare
namespace Go.Proofs.Ytaejmgdpnnhpmaa.QFlex
open Go.RowKit Go.Proofs.YtaejmgdpnnhpmaaW.PrintWords Go.Proofs.YtaejmgdpnnhpmaaW.PrintLast Go.Proofs.YtaejmgdpnnhpmaaW.PrintMore
attribute [local go_sem] max2_int min2_int max_two min_two max_three min_three max_four min_four   -- for this text's walks alone
set_option linter.unusedVariables false
set_option linter.unusedSimpArgs false
variable {hA_ : Option Addr} {hc_ : Nat}

/-! ### flex_row_parts: function 110 -/
mutual
def flex_row_parts.l0 : Nat → Int → List Int → List (S99) → Int → Int → Int → List (S99) → Bool → Option (List Int × Int × Bool)
  | 0, _, _, _, _, _, _, _, _ => none
  | k + 1, x1, x5, x19, x20, x21, x1000, x1001, x1002 => if x21 < x20 then (if 0 ≤ x21 then (if x21 < (x19.length : Int) then (if (rd_T99 x19 x21).f2 = true then (flex_row_parts.l0 k x1 x5 x19 x20 (wrap64 (x21 + 1)) x1000 x1001 x1002) else (if x1002 = true then (if x21 < (x5.length : Int) then (flex_row_parts.l0 k x1 (x5.set (x21 : Int).toNat ((rd_T99 x19 x21).f0.f3)) x19 x20 (wrap64 (x21 + 1)) x1000 x1001 x1002) else (none)) else ((fix_Part.f ((rd_T99 x19 x21).f0.f4) (mx 0 ((rd_T99 x19 x21).f0.f0)) 64).bind fun t140 => (if x21 < (x5.length : Int) then (flex_row_parts.l0 k x1 (x5.set (x21 : Int).toNat t140) x19 x20 (wrap64 (x21 + 1)) x1000 x1001 x1002) else (none))))) else (none)) else (none)) else (if x1002 = true then ((fix_Share.f (mx 0 x1) x5).bind fun t142 => (some (t142, x1000, x1002))) else ((fix_Share.f (mx 0 (wrap64 (-x1))) x5).bind fun t145 => (flex_row_parts.l1 k t145 (t145.length : Int) 0 x1000 x1001 x1002)))
def flex_row_parts.l1 : Nat → List Int → Int → Int → Int → List (S99) → Bool → Option (List Int × Int × Bool)
  | 0, _, _, _, _, _, _ => none
  | k + 1, x8, x66, x67, x1000, x1001, x1002 => if x67 < x66 then (if 0 ≤ x67 then (if x67 < (x8.length : Int) then (flex_row_parts.l1 k (x8.set (x67 : Int).toNat (wrap64 (-(rd x8 x67)))) x66 (wrap64 (x67 + 1)) x1000 x1001 x1002) else (none)) else (none)) else (some (x8, x1000, x1002))
end
def flex_row_parts.f (k : Nat) (s0_0 : Int) (s0_1 : List (S99)) (s0_2 : Bool) (a1 : Int) : Option (List Int × Int × Bool) := if 0 ≤ (s0_1.length : Int) then (if ((s0_1.length : Int) : Int).toNat ≤ 35184372088832 then (flex_row_parts.l0 k a1 (List.replicate ((s0_1.length : Int) : Int).toNat 0) s0_1 (s0_1.length : Int) 0 s0_0 s0_1 s0_2) else (none)) else (none)
theorem flex_row_parts.mono_l : ∀ k, (∀ y0 y1 y2 y3 y4 y5 y6 y7, LeO (flex_row_parts.l0 k y0 y1 y2 y3 y4 y5 y6 y7) (flex_row_parts.l0 (k + 1) y0 y1 y2 y3 y4 y5 y6 y7)) ∧ (∀ y0 y1 y2 y3 y4 y5, LeO (flex_row_parts.l1 k y0 y1 y2 y3 y4 y5) (flex_row_parts.l1 (k + 1) y0 y1 y2 y3 y4 y5))
  | 0 => ⟨fun _ _ _ _ _ _ _ _ r h => by simp [flex_row_parts.l0] at h, fun _ _ _ _ _ _ r h => by simp [flex_row_parts.l1] at h⟩
  | k + 1 => by
    obtain ⟨ih0, ih1⟩ := flex_row_parts.mono_l k
    refine ⟨?_, ?_⟩
    · intro y0 y1 y2 y3 y4 y5 y6 y7
      unfold flex_row_parts.l0
      repeat' first
      | (with_reducible exact ih0 _ _ _ _ _ _ _ _)
      | (with_reducible exact ih1 _ _ _ _ _ _)
      | (with_reducible exact LeO.refl _)
      | (with_reducible exact LeO.none _)
      | (with_reducible refine LeO.ite ?_ ?_)
      | (with_reducible refine LeO.bind ?_ (fun _ => ?_))
      | exact ih0 _ _ _ _ _ _ _ _
      | exact ih1 _ _ _ _ _ _
      | exact LeO.none _
      | refine LeO.ite ?_ ?_
      | refine LeO.bind ?_ (fun _ => ?_)
    · intro y0 y1 y2 y3 y4 y5
      unfold flex_row_parts.l1
      repeat' first
      | (with_reducible exact ih0 _ _ _ _ _ _ _ _)
      | (with_reducible exact ih1 _ _ _ _ _ _)
      | (with_reducible exact LeO.refl _)
      | (with_reducible exact LeO.none _)
      | (with_reducible refine LeO.ite ?_ ?_)
      | (with_reducible refine LeO.bind ?_ (fun _ => ?_))
      | exact ih0 _ _ _ _ _ _ _ _
      | exact ih1 _ _ _ _ _ _
      | exact LeO.none _
      | refine LeO.ite ?_ ?_
      | refine LeO.bind ?_ (fun _ => ?_)
theorem flex_row_parts.mono : ∀ a0 a1 a2 a3 k, LeO (flex_row_parts.f k a0 a1 a2 a3) (flex_row_parts.f (k + 1) a0 a1 a2 a3) := by
  intro a0 a1 a2 a3 k
  obtain ⟨ih0, ih1⟩ := flex_row_parts.mono_l k
  unfold flex_row_parts.f
  repeat' first
      | (with_reducible exact ih0 _ _ _ _ _ _ _ _)
      | (with_reducible exact ih1 _ _ _ _ _ _)
      | (with_reducible exact LeO.refl _)
      | (with_reducible exact LeO.none _)
      | (with_reducible refine LeO.ite ?_ ?_)
      | (with_reducible refine LeO.bind ?_ (fun _ => ?_))
      | exact ih0 _ _ _ _ _ _ _ _
      | exact ih1 _ _ _ _ _ _
      | exact LeO.none _
      | refine LeO.ite ?_ ?_
      | refine LeO.bind ?_ (fun _ => ?_)
set_option maxHeartbeats 8000000 in
set_option maxRecDepth 100000 in
theorem flex_row_parts.calls (k : Nat) (g : Nat) (s0_0 : Int) (s0_1 : List (S99)) (s0_2 : Bool) (a1 : Int) (r1 : List Int) (r2 : Int) (r3 : Bool) (w0 w : World) (hI : IsS96 hA_ hc_ w0 w g s0_0 s0_1 s0_2) (hB : Below w0.heap.size w0 w) (h : flex_row_parts.f k s0_0 s0_1 s0_2 a1 = some (r1, r2, r3)) :
    Calls Try.prog 110 #[.pointer (some ⟨g, 0, none⟩), .int .i64 a1] w fun e w' => ∃ v0_ : Value, e = .returned (v0_) ∧ Kd.R (Kd.int .i64) 3 w' w.heap.size (fun _ => True) v0_ r1 ∧ IsS96 hA_ hc_ w0 w' g r2 s0_1 r3 ∧ Below w0.heap.size w0 w' ∧ KeepBut w w' g none := by
  have hu99 := Try.underlying99
  have HI0 := Aside0.mk hI
  have HK := Aside0.mk (KeepBut.refl w g none)
  have HL := Aside0.mk hB.size
  clear hI
  have HW0 := Aside0.mk hB.size
  have HB := Aside0.mk hB
  clear hB
  have H : (if 0 ≤ (s0_1.length : Int) then (if ((s0_1.length : Int) : Int).toNat ≤ 35184372088832 then (flex_row_parts.l0 k a1 (List.replicate ((s0_1.length : Int) : Int).toNat 0) s0_1 (s0_1.length : Int) 0 s0_0 s0_1 s0_2) else (none)) else (none)) = some (r1, r2, r3) := h
  clear h
  by_cases c3 : 0 ≤ (s0_1.length : Int)
  · rw [if_pos c3] at H
    have c3b0 := eq_true c3
    have c3b1 : decide (0 ≤ (s0_1.length : Int)) = true := decide_eq_true c3
    clear c3
    by_cases c4 : ((s0_1.length : Int) : Int).toNat ≤ 35184372088832
    · rw [if_pos c4] at H
      have c4b0 := eq_true c4
      have c4b1 : decide (((s0_1.length : Int) : Int).toNat ≤ 35184372088832) = true := decide_eq_true c4
      clear c4
      obtain ⟨y134, hy134⟩ : ∃ y_ : List Int, y_ = (List.replicate ((s0_1.length : Int) : Int).toNat 0) := ⟨_, rfl⟩
      replace H : (flex_row_parts.l0 k a1 y134 s0_1 (s0_1.length : Int) 0 s0_0 s0_1 s0_2) = some (r1, r2, r3) := by first | (rw [hy134]; with_reducible exact H) | (have H2_ := (Option.bind_some _ _).symm.trans H; rw [hy134]; with_reducible exact H2_) | (have H2_ := (Option.bind_some _ _).symm.trans H; with_reducible exact H2_) | with_reducible exact H | (rw [hy134]; exact H) | exact H
      have Ny134 := Aside0.mk hy134
      clear hy134
      have H' := Aside0.mk H
      clear H
      obtain ⟨ASz5_1, cSz5_1, HGz5, hgz5, HSz5_1⟩ := HI0.out
      have hcz5_0 := cellS96_0 HGz5
      have hcz5_1 := cellS96_1 HGz5
      have hcz5_2 := cellS96_2 HGz5
      have hfz5_0 := blk_frozen HGz5 0
      have hfz5_2 := blk_frozen HGz5 2
      clear HGz5 hgz5
      go_enter Try.func110, Try.ntmps110
      go_wp2_with (first | ((with_reducible refine gate_dst (N := 15) rfl ?_); refine Kd.R_make (Kd.int .i64) _ 3 rfl (N := 15) rfl 51 _ _ rfl (s0_1.length : Int) rfl rfl Try.underlying51 (.int .i64 0) 8 info3 rfl (by decide) (by omega) 0 (ok := fun _ => True) (okp := fun _ => True) rfl (fun _ hk => hk) trivial (of_decide_eq_true (by first | (with_reducible assumption) | assumption)) (Nat.le_trans (Nat.mul_le_mul_right _ (of_decide_eq_true (by first | (with_reducible assumption) | assumption) : (s0_1.length : Int).toNat ≤ 35184372088832)) (by omega)) (Below.refl _ _) (Nat.le_refl _) ?_; intro v135 w6 ho7 hb hg_ hnew_; clear hg_ hnew_; (first | rw [← Ny134.out] at ho7 | (simp only [Int.reduceToNat] at ho7; rw [← Ny134.out] at ho7)); have n0_ := Aside0.mk (Kd.R_lower ho7 (keep_size (w := w) (g := g) (row := none) (by repeat (first | (with_reducible first | exact HK.out | apply KeepBut.set_ | apply keep_drewN | apply keep_drew | apply keep_alloc) | exact HK.out)))); have n1_ := Aside0.mk (IsS96.below (by repeat (first | (with_reducible first | exact HI0.out | apply IsS96.alloc | apply IsS96.drewN | apply IsS96.drew | apply IsS96.set_0 | apply IsS96.set_2) | exact HI0.out)) hb); have n2_ := Aside0.mk (KeepBut.trans (by repeat (first | (with_reducible first | exact HK.out | apply KeepBut.set_ | apply keep_drewN | apply keep_drew | apply keep_alloc) | exact HK.out)) (KeepBut.of_below hb g none) (.inl rfl)); have n3_ := Aside0.mk (below_step (by repeat (first | (with_reducible first | exact HB.out | apply below_alloc | apply pw_below_drewN | apply below_drew1 | refine below_set ?_ (IsS96.ge HI0.out)) | exact HB.out)) hb); clear HI0; clear HK; clear HB; have HO136 := n0_; have HI0 := n1_; have HK := n2_; have HB := n3_; clear n0_ n1_ n2_ n3_; clear hb ho7; obtain ⟨ASz8_1, cSz8_1, HGz8, hgz8, HSz8_1⟩ := HI0.out; have hcz8_0 := cellS96_0 HGz8; have hcz8_1 := cellS96_1 HGz8; have hcz8_2 := cellS96_2 HGz8; have hfz8_0 := blk_frozen HGz8 0; have hfz8_2 := blk_frozen HGz8 2; clear HGz8 hgz8))
      go_loopg [21] k (fun kq v21 w' => ∃ (x5_1 : List Int) (x21_1 : Int), v21 = .int .i64 x21_1 ∧ Aside0 (flex_row_parts.l0 kq a1 x5_1 s0_1 (s0_1.length : Int) x21_1 s0_0 s0_1 s0_2 = some (r1, r2, r3)) ∧ Aside0 (kq ≤ k) ∧ Aside0 (Kd.R (Kd.int .i64) 3 w' w.heap.size (fun _ => True) v135 x5_1) ∧ Aside0 (IsS96 hA_ hc_ w0 w' g s0_0 s0_1 s0_2) ∧ Aside0 (KeepBut w w' g none) ∧ Aside0 (Below w0.heap.size w0 w'))
      case atStart => exact ⟨(y134), (0), (by first | rfl | (simp; done) | (simp [*]; done)), H', ⟨Nat.le_refl _⟩, ⟨by (with_reducible repeat (first | apply Kd.R_alloc | apply Kd.R_drewN | apply Kd.R_drew)); exact HO136.out⟩, ⟨by repeat (first | (with_reducible first | exact HI0.out | apply IsS96.alloc | apply IsS96.drewN | apply IsS96.drew | apply IsS96.set_0 | apply IsS96.set_2) | exact HI0.out)⟩, ⟨by repeat (first | (with_reducible first | exact HK.out | apply KeepBut.set_ | apply keep_drewN | apply keep_drew | apply keep_alloc) | exact HK.out)⟩, ⟨by repeat (first | (with_reducible first | exact HB.out | apply below_alloc | apply pw_below_drewN | apply below_drew1 | refine below_set ?_ (IsS96.ge HI0.out)) | exact HB.out)⟩⟩
      case round =>
        clear H'
        try clear c1
        try clear p2
        try clear c3
        try clear c3b0
        try clear c3b1
        try clear c4
        try clear c4b0
        try clear c4b1
        try clear hcz5_0
        try clear hcz5_1
        try clear hcz5_2
        try clear hcz8_0
        try clear hcz8_1
        try clear hcz8_2
        try clear hfz5_0
        try clear hfz5_2
        try clear hfz8_0
        try clear hfz8_2
        obtain ⟨x5_1, x21_1, rfl, HA, HK1, HO_5, HI0, HK, HB⟩ := hrel
        cases gk with
        | zero => exact absurd HA.out (by simp [flex_row_parts.l0])
        | succ k1 =>
          have H := HA.out
          clear HA
          simp only [flex_row_parts.l0] at H
          by_cases c9 : x21_1 < (s0_1.length : Int)
          · rw [if_pos c9] at H
            have c9b0 : decide (x21_1 < (s0_1.length : Int)) = true := decide_eq_true c9
            clear c9
            by_cases c10 : 0 ≤ x21_1
            · rw [if_pos c10] at H
              have c10b0 : decide (0 ≤ x21_1) = true := decide_eq_true c10
              clear c10
              by_cases c11 : x21_1 < (s0_1.length : Int)
              · rw [if_pos c11] at H
                have c11b0 : decide (x21_1 < (s0_1.length : Int)) = true := decide_eq_true c11
                clear c11
                obtain ⟨bq12, hbq12⟩ : ∃ b_ : Bool, b_ = ((rd_T99 s0_1 x21_1).f2) := ⟨_, rfl⟩
                replace H : (if bq12 = true then (flex_row_parts.l0 k1 a1 x5_1 s0_1 (s0_1.length : Int) (wrap64 (x21_1 + 1)) s0_0 s0_1 s0_2) else (if s0_2 = true then (if x21_1 < (x5_1.length : Int) then (flex_row_parts.l0 k1 a1 (x5_1.set (x21_1 : Int).toNat ((rd_T99 s0_1 x21_1).f0.f3)) s0_1 (s0_1.length : Int) (wrap64 (x21_1 + 1)) s0_0 s0_1 s0_2) else (none)) else ((fix_Part.f ((rd_T99 s0_1 x21_1).f0.f4) (mx 0 ((rd_T99 s0_1 x21_1).f0.f0)) 64).bind fun t140 => (if x21_1 < (x5_1.length : Int) then (flex_row_parts.l0 k1 a1 (x5_1.set (x21_1 : Int).toNat t140) s0_1 (s0_1.length : Int) (wrap64 (x21_1 + 1)) s0_0 s0_1 s0_2) else (none))))) = some (r1, r2, r3) := by rw [← hbq12] at H; exact H
                have Nbq12 := Aside0.mk hbq12
                clear hbq12
                by_cases c13 : bq12 = true
                · subst c13
                  have H1 : (flex_row_parts.l0 k1 a1 x5_1 s0_1 (s0_1.length : Int) (wrap64 (x21_1 + 1)) s0_0 s0_1 s0_2) = some (r1, r2, r3) := by rw [if_pos rfl] at H; exact H
                  clear H
                  have H := H1
                  clear H1
                  have H' := Aside0.mk H
                  clear H
                  obtain ⟨ASz14_1, cSz14_1, HGz14, hgz14, HSz14_1⟩ := HI0.out
                  have hcz14_0 := cellS96_0 HGz14
                  have hcz14_1 := cellS96_1 HGz14
                  have hcz14_2 := cellS96_2 HGz14
                  have hfz14_0 := blk_frozen HGz14 0
                  have hfz14_2 := blk_frozen HGz14 2
                  clear HGz14 hgz14
                  have p137 : 0 ≤ (x21_1 : Int) := of_decide_eq_true (by first | (with_reducible assumption) | assumption)
                  have q137 : x21_1 < (s0_1.length : Int) := of_decide_eq_true (by first | (with_reducible assumption) | assumption)
                  obtain ⟨ad137, e137, hx137_0, hx137_1, hx137_2, hx137_3, hx137_4, hx137_5, hx137_6, hx137_7, hx137_8⟩ := at_T99 HSz8_1 x21_1 p137 q137
                  (try rw [← Nbq12.out] at hx137_7)
                  cases e137
                  replace hx137_0 := pw_cell_below HB.out hx137_0
                  replace hx137_1 := pw_cell_below HB.out hx137_1
                  replace hx137_2 := pw_cell_below HB.out hx137_2
                  replace hx137_3 := pw_cell_below HB.out hx137_3
                  replace hx137_4 := pw_cell_below HB.out hx137_4
                  replace hx137_5 := pw_cell_below HB.out hx137_5
                  replace hx137_6 := pw_cell_below HB.out hx137_6
                  replace hx137_7 := pw_cell_below HB.out hx137_7
                  replace hx137_8 := pw_cell_below HB.out hx137_8
                  replace p137 := eq_true p137
                  replace q137 := eq_true q137
                  go_wp2_with (first | ((with_reducible refine gate_dst (N := 7) rfl ?_); refine box_event ?hg (N := 7) ?hd (cs := #[.int .i64 0, .int .i64 0, .int .i64 0, .int .i64 0, .int .i64 0, .int .i64 0, .int .i64 0, .bool false, .int .i64 0]) (t := 99) ?hr ?_; (case hd => rfl); (case hg => rfl); (case hr => first | (go_simp; done) | (go_simp; rfl)); intro gb138 hg w15 hbox hb; have n0_ := Aside0.mk (Kd.R_below (by (with_reducible repeat (first | apply Kd.R_alloc | apply Kd.R_drewN | apply Kd.R_drew)); exact HO_5.out) hb); have n1_ := Aside0.mk (IsS96.below (by repeat (first | (with_reducible first | exact HI0.out | apply IsS96.alloc | apply IsS96.drewN | apply IsS96.drew | apply IsS96.set_0 | apply IsS96.set_2) | exact HI0.out)) hb); have n2_ := Aside0.mk (KeepBut.trans (by repeat (first | (with_reducible first | exact HK.out | apply KeepBut.set_ | apply keep_drewN | apply keep_drew | apply keep_alloc) | exact HK.out)) (KeepBut.of_below hb g none) (.inl rfl)); have n3_ := Aside0.mk (below_step (by repeat (first | (with_reducible first | exact HB.out | apply below_alloc | apply pw_below_drewN | apply below_drew1 | refine below_set ?_ (IsS96.ge HI0.out)) | exact HB.out)) hb); have n4_ := Aside0.mk (hbox); have n5_ := Aside0.mk ((by rw [hg]; exact (keep_size (w := w) (g := g) (row := none) (by repeat (first | (with_reducible first | exact HK.out | apply KeepBut.set_ | apply keep_drewN | apply keep_drew | apply keep_alloc) | exact HK.out))) : w.heap.size ≤ gb138)); have n6_ := Aside0.mk ((Nat.le_trans HW0.out (by rw [hg]; exact (keep_size (w := w) (g := g) (row := none) (by repeat (first | (with_reducible first | exact HK.out | apply KeepBut.set_ | apply keep_drewN | apply keep_drew | apply keep_alloc) | exact HK.out))) : w.heap.size ≤ gb138) : w0.heap.size ≤ gb138)); have n7_ := Aside0.mk ((by rw [hg]; exact Nat.ne_of_lt (IsS96.lt (show IsS96 hA_ hc_ w0 _ g s0_0 s0_1 s0_2 from by repeat (first | (with_reducible first | exact HI0.out | apply IsS96.alloc | apply IsS96.drewN | apply IsS96.drew | apply IsS96.set_0 | apply IsS96.set_2) | exact HI0.out))) : g ≠ gb138)); have n8_ := Aside0.mk ((by rw [hg]; exact Nat.ne_of_gt (IsS96.lt (show IsS96 hA_ hc_ w0 _ g s0_0 s0_1 s0_2 from by repeat (first | (with_reducible first | exact HI0.out | apply IsS96.alloc | apply IsS96.drewN | apply IsS96.drew | apply IsS96.set_0 | apply IsS96.set_2) | exact HI0.out))) : gb138 ≠ g)); clear HO_5; clear HI0; clear HK; clear HB; have HO_5 := n0_; have HI0 := n1_; have HK := n2_; have HB := n3_; have BK138 := n4_; have GW138 := n5_; have GE138 := n6_; have NB0_138 := n7_; have NB138_0 := n8_; clear n0_ n1_ n2_ n3_ n4_ n5_ n6_ n7_ n8_; clear hb hbox hg; have hnb16 := NB138_0.out; have hnc16 := NB0_138.out; have hcz17_0 : w15.cell? ⟨gb138, 0, none⟩ = some (.int .i64 0) := (blk_cell BK138.out 0).trans rfl; have hcz17_1 : w15.cell? ⟨gb138, 1, none⟩ = some (.int .i64 0) := (blk_cell BK138.out 1).trans rfl; have hcz17_2 : w15.cell? ⟨gb138, 2, none⟩ = some (.int .i64 0) := (blk_cell BK138.out 2).trans rfl; have hcz17_3 : w15.cell? ⟨gb138, 3, none⟩ = some (.int .i64 0) := (blk_cell BK138.out 3).trans rfl; have hcz17_4 : w15.cell? ⟨gb138, 4, none⟩ = some (.int .i64 0) := (blk_cell BK138.out 4).trans rfl; have hcz17_5 : w15.cell? ⟨gb138, 5, none⟩ = some (.int .i64 0) := (blk_cell BK138.out 5).trans rfl; have hcz17_6 : w15.cell? ⟨gb138, 6, none⟩ = some (.int .i64 0) := (blk_cell BK138.out 6).trans rfl; have hcz17_7 : w15.cell? ⟨gb138, 7, none⟩ = some (.bool false) := (blk_cell BK138.out 7).trans rfl; have hcz17_8 : w15.cell? ⟨gb138, 8, none⟩ = some (.int .i64 0) := (blk_cell BK138.out 8).trans rfl; have hfz17_0 := blk_frozen BK138.out 0; have hfz17_1 := blk_frozen BK138.out 1; have hfz17_2 := blk_frozen BK138.out 2; have hfz17_3 := blk_frozen BK138.out 3; have hfz17_4 := blk_frozen BK138.out 4; have hfz17_5 := blk_frozen BK138.out 5; have hfz17_6 := blk_frozen BK138.out 6; have hfz17_7 := blk_frozen BK138.out 7; have hfz17_8 := blk_frozen BK138.out 8))
                  go_roundg k1
                  case measure => have := HK1.out; omega
                  case rel => exact ⟨(x5_1), (wrap64 (x21_1 + 1)), (by first | rfl | (simp; done) | (simp [*]; done)), H', ⟨by have := HK1.out; omega⟩, ⟨by (with_reducible repeat (first | apply Kd.R_alloc | apply Kd.R_drewN | apply Kd.R_drew)); exact Kd.R_mono (Kd.R_far (p := ⟨gb138, 8, none⟩) (Kd.R_far (p := ⟨gb138, 7, none⟩) (Kd.R_far (p := ⟨gb138, 6, none⟩) (Kd.R_far (p := ⟨gb138, 5, none⟩) (Kd.R_far (p := ⟨gb138, 4, none⟩) (Kd.R_far (p := ⟨gb138, 3, none⟩) (Kd.R_far (p := ⟨gb138, 2, none⟩) (Kd.R_far (p := ⟨gb138, 1, none⟩) (Kd.R_far (p := ⟨gb138, 0, none⟩) (Kd.R_types HO_5.out BK138.out (by decide)) (fun _ hk => hk.2) (.int .i64 ((rd_T99 s0_1 x21_1).f0.f0))) (fun _ hk => hk.2) (.int .i64 ((rd_T99 s0_1 x21_1).f0.f1))) (fun _ hk => hk.2) (.int .i64 ((rd_T99 s0_1 x21_1).f0.f2))) (fun _ hk => hk.2) (.int .i64 ((rd_T99 s0_1 x21_1).f0.f3))) (fun _ hk => hk.2) (.int .i64 ((rd_T99 s0_1 x21_1).f0.f4))) (fun _ hk => hk.2) (.int .i64 ((rd_T99 s0_1 x21_1).f0.f5))) (fun _ hk => hk.2) (.int .i64 ((rd_T99 s0_1 x21_1).f1))) (fun _ hk => hk.2) (.bool true)) (fun _ hk => hk.2) (.int .i64 ((rd_T99 s0_1 x21_1).f3))) (fun _ hk => trivial)⟩, ⟨by repeat (first | (with_reducible first | exact HI0.out | apply IsS96.alloc | apply IsS96.drewN | apply IsS96.drew | apply IsS96.set_0 | apply IsS96.set_2 | refine IsS96.far ?_ NB0_138.out _) | exact HI0.out)⟩, ⟨by repeat (first | (with_reducible first | exact HK.out | apply KeepBut.set_ | apply keep_drewN | apply keep_drew | apply keep_alloc | refine keep_far ?_ GW138.out _) | exact HK.out)⟩, ⟨by repeat (first | (with_reducible first | exact HB.out | apply below_alloc | apply pw_below_drewN | apply below_drew1 | refine below_set ?_ (IsS96.ge HI0.out) | refine below_set ?_ GE138.out) | exact HB.out)⟩⟩
                · replace c13 := Bool.eq_false_iff.mpr c13
                  subst c13
                  have H1 : (if s0_2 = true then (if x21_1 < (x5_1.length : Int) then (flex_row_parts.l0 k1 a1 (x5_1.set (x21_1 : Int).toNat ((rd_T99 s0_1 x21_1).f0.f3)) s0_1 (s0_1.length : Int) (wrap64 (x21_1 + 1)) s0_0 s0_1 s0_2) else (none)) else ((fix_Part.f ((rd_T99 s0_1 x21_1).f0.f4) (mx 0 ((rd_T99 s0_1 x21_1).f0.f0)) 64).bind fun t140 => (if x21_1 < (x5_1.length : Int) then (flex_row_parts.l0 k1 a1 (x5_1.set (x21_1 : Int).toNat t140) s0_1 (s0_1.length : Int) (wrap64 (x21_1 + 1)) s0_0 s0_1 s0_2) else (none)))) = some (r1, r2, r3) := by rw [if_neg (show ¬ (false = true) by decide)] at H; exact H
                  clear H
                  have H := H1
                  clear H1
                  by_cases c18 : s0_2 = true
                  · subst c18
                    have H1 : (if x21_1 < (x5_1.length : Int) then (flex_row_parts.l0 k1 a1 (x5_1.set (x21_1 : Int).toNat ((rd_T99 s0_1 x21_1).f0.f3)) s0_1 (s0_1.length : Int) (wrap64 (x21_1 + 1)) s0_0 s0_1 true) else (none)) = some (r1, r2, r3) := by rw [if_pos rfl] at H; exact H
                    clear H
                    have H := H1
                    clear H1
                    by_cases c19 : x21_1 < (x5_1.length : Int)
                    · rw [if_pos c19] at H
                      have c19b0 : decide (x21_1 < (x5_1.length : Int)) = true := decide_eq_true c19
                      clear c19
                      obtain ⟨y139, hy139⟩ : ∃ y_ : List Int, y_ = (x5_1.set (x21_1 : Int).toNat ((rd_T99 s0_1 x21_1).f0.f3)) := ⟨_, rfl⟩
                      replace H : (flex_row_parts.l0 k1 a1 y139 s0_1 (s0_1.length : Int) (wrap64 (x21_1 + 1)) s0_0 s0_1 true) = some (r1, r2, r3) := by first | (rw [hy139]; with_reducible exact H) | (have H2_ := (Option.bind_some _ _).symm.trans H; rw [hy139]; with_reducible exact H2_) | (have H2_ := (Option.bind_some _ _).symm.trans H; with_reducible exact H2_) | with_reducible exact H | (rw [hy139]; exact H) | exact H
                      have Ny139 := Aside0.mk hy139
                      clear hy139
                      have H' := Aside0.mk H
                      clear H
                      obtain ⟨ASz21_1, cSz21_1, HGz21, hgz21, HSz21_1⟩ := HI0.out
                      have hcz21_0 := cellS96_0 HGz21
                      have hcz21_1 := cellS96_1 HGz21
                      have hcz21_2 := cellS96_2 HGz21
                      have hfz21_0 := blk_frozen HGz21 0
                      have hfz21_2 := blk_frozen HGz21 2
                      clear HGz21 hgz21
                      have p137 : 0 ≤ (x21_1 : Int) := of_decide_eq_true (by first | (with_reducible assumption) | assumption)
                      have q137 : x21_1 < (s0_1.length : Int) := of_decide_eq_true (by first | (with_reducible assumption) | assumption)
                      obtain ⟨ad137, e137, hx137_0, hx137_1, hx137_2, hx137_3, hx137_4, hx137_5, hx137_6, hx137_7, hx137_8⟩ := at_T99 HSz8_1 x21_1 p137 q137
                      (try rw [← Nbq12.out] at hx137_7)
                      cases e137
                      replace hx137_0 := pw_cell_below HB.out hx137_0
                      replace hx137_1 := pw_cell_below HB.out hx137_1
                      replace hx137_2 := pw_cell_below HB.out hx137_2
                      replace hx137_3 := pw_cell_below HB.out hx137_3
                      replace hx137_4 := pw_cell_below HB.out hx137_4
                      replace hx137_5 := pw_cell_below HB.out hx137_5
                      replace hx137_6 := pw_cell_below HB.out hx137_6
                      replace hx137_7 := pw_cell_below HB.out hx137_7
                      replace hx137_8 := pw_cell_below HB.out hx137_8
                      replace p137 := eq_true p137
                      replace q137 := eq_true q137
                      go_wp2_with (first | ((with_reducible refine gate_dst (N := 7) rfl ?_); refine box_event ?hg (N := 7) ?hd (cs := #[.int .i64 0, .int .i64 0, .int .i64 0, .int .i64 0, .int .i64 0, .int .i64 0, .int .i64 0, .bool false, .int .i64 0]) (t := 99) ?hr ?_; (case hd => rfl); (case hg => rfl); (case hr => first | (go_simp; done) | (go_simp; rfl)); intro gb138 hg w22 hbox hb; have n0_ := Aside0.mk (Kd.R_below (by (with_reducible repeat (first | apply Kd.R_alloc | apply Kd.R_drewN | apply Kd.R_drew)); exact HO_5.out) hb); have n1_ := Aside0.mk (IsS96.below (by repeat (first | (with_reducible first | exact HI0.out | apply IsS96.alloc | apply IsS96.drewN | apply IsS96.drew | apply IsS96.set_0 | apply IsS96.set_2) | exact HI0.out)) hb); have n2_ := Aside0.mk (KeepBut.trans (by repeat (first | (with_reducible first | exact HK.out | apply KeepBut.set_ | apply keep_drewN | apply keep_drew | apply keep_alloc) | exact HK.out)) (KeepBut.of_below hb g none) (.inl rfl)); have n3_ := Aside0.mk (below_step (by repeat (first | (with_reducible first | exact HB.out | apply below_alloc | apply pw_below_drewN | apply below_drew1 | refine below_set ?_ (IsS96.ge HI0.out)) | exact HB.out)) hb); have n4_ := Aside0.mk (hbox); have n5_ := Aside0.mk ((by rw [hg]; exact (keep_size (w := w) (g := g) (row := none) (by repeat (first | (with_reducible first | exact HK.out | apply KeepBut.set_ | apply keep_drewN | apply keep_drew | apply keep_alloc) | exact HK.out))) : w.heap.size ≤ gb138)); have n6_ := Aside0.mk ((Nat.le_trans HW0.out (by rw [hg]; exact (keep_size (w := w) (g := g) (row := none) (by repeat (first | (with_reducible first | exact HK.out | apply KeepBut.set_ | apply keep_drewN | apply keep_drew | apply keep_alloc) | exact HK.out))) : w.heap.size ≤ gb138) : w0.heap.size ≤ gb138)); have n7_ := Aside0.mk ((by rw [hg]; exact Nat.ne_of_lt (IsS96.lt (show IsS96 hA_ hc_ w0 _ g s0_0 s0_1 true from by repeat (first | (with_reducible first | exact HI0.out | apply IsS96.alloc | apply IsS96.drewN | apply IsS96.drew | apply IsS96.set_0 | apply IsS96.set_2) | exact HI0.out))) : g ≠ gb138)); have n8_ := Aside0.mk ((by rw [hg]; exact Nat.ne_of_gt (IsS96.lt (show IsS96 hA_ hc_ w0 _ g s0_0 s0_1 true from by repeat (first | (with_reducible first | exact HI0.out | apply IsS96.alloc | apply IsS96.drewN | apply IsS96.drew | apply IsS96.set_0 | apply IsS96.set_2) | exact HI0.out))) : gb138 ≠ g)); clear HO_5; clear HI0; clear HK; clear HB; have HO_5 := n0_; have HI0 := n1_; have HK := n2_; have HB := n3_; have BK138 := n4_; have GW138 := n5_; have GE138 := n6_; have NB0_138 := n7_; have NB138_0 := n8_; clear n0_ n1_ n2_ n3_ n4_ n5_ n6_ n7_ n8_; clear hb hbox hg; have hnb23 := NB138_0.out; have hnc23 := NB0_138.out; have hcz24_0 : w22.cell? ⟨gb138, 0, none⟩ = some (.int .i64 0) := (blk_cell BK138.out 0).trans rfl; have hcz24_1 : w22.cell? ⟨gb138, 1, none⟩ = some (.int .i64 0) := (blk_cell BK138.out 1).trans rfl; have hcz24_2 : w22.cell? ⟨gb138, 2, none⟩ = some (.int .i64 0) := (blk_cell BK138.out 2).trans rfl; have hcz24_3 : w22.cell? ⟨gb138, 3, none⟩ = some (.int .i64 0) := (blk_cell BK138.out 3).trans rfl; have hcz24_4 : w22.cell? ⟨gb138, 4, none⟩ = some (.int .i64 0) := (blk_cell BK138.out 4).trans rfl; have hcz24_5 : w22.cell? ⟨gb138, 5, none⟩ = some (.int .i64 0) := (blk_cell BK138.out 5).trans rfl; have hcz24_6 : w22.cell? ⟨gb138, 6, none⟩ = some (.int .i64 0) := (blk_cell BK138.out 6).trans rfl; have hcz24_7 : w22.cell? ⟨gb138, 7, none⟩ = some (.bool false) := (blk_cell BK138.out 7).trans rfl; have hcz24_8 : w22.cell? ⟨gb138, 8, none⟩ = some (.int .i64 0) := (blk_cell BK138.out 8).trans rfl; have hfz24_0 := blk_frozen BK138.out 0; have hfz24_1 := blk_frozen BK138.out 1; have hfz24_2 := blk_frozen BK138.out 2; have hfz24_3 := blk_frozen BK138.out 3; have hfz24_4 := blk_frozen BK138.out 4; have hfz24_5 := blk_frozen BK138.out 5; have hfz24_6 := blk_frozen BK138.out 6; have hfz24_7 := blk_frozen BK138.out 7; have hfz24_8 := blk_frozen BK138.out 8) | ((with_reducible refine gate_store (t := 99) (p := 7) rfl ?_); refine store_event (t := 99) (p := 7) (v := ?vo_w25) (w1 := (((((((((w22.setCell ⟨gb138, 0, none⟩ (.int .i64 ((rd_T99 s0_1 x21_1).f0.f0))).setCell ⟨gb138, 1, none⟩ (.int .i64 ((rd_T99 s0_1 x21_1).f0.f1))).setCell ⟨gb138, 2, none⟩ (.int .i64 ((rd_T99 s0_1 x21_1).f0.f2))).setCell ⟨gb138, 3, none⟩ (.int .i64 ((rd_T99 s0_1 x21_1).f0.f3))).setCell ⟨gb138, 4, none⟩ (.int .i64 ((rd_T99 s0_1 x21_1).f0.f4))).setCell ⟨gb138, 5, none⟩ (.int .i64 ((rd_T99 s0_1 x21_1).f0.f5))).setCell ⟨gb138, 6, none⟩ (.int .i64 ((rd_T99 s0_1 x21_1).f1))).setCell ⟨gb138, 7, none⟩ (.bool false)).setCell ⟨gb138, 8, none⟩ (.int .i64 ((rd_T99 s0_1 x21_1).f3)))) ?hg ?ho ?hn ?hr ?_; (case ho => rfl); (case hg => rfl); (case hn => rfl); (case hr => first | (go_simp; done) | (go_simp; rfl)); intro w25 hw; have n0_ : Aside0 (Kd.R (Kd.int .i64) 3 w25 w.heap.size (fun _ => True) v135 x5_1) := ⟨(by rw [hw]; exact (by (with_reducible repeat (first | apply Kd.R_alloc | apply Kd.R_drewN | apply Kd.R_drew)); exact Kd.R_mono (Kd.R_far (p := ⟨gb138, 8, none⟩) (Kd.R_far (p := ⟨gb138, 7, none⟩) (Kd.R_far (p := ⟨gb138, 6, none⟩) (Kd.R_far (p := ⟨gb138, 5, none⟩) (Kd.R_far (p := ⟨gb138, 4, none⟩) (Kd.R_far (p := ⟨gb138, 3, none⟩) (Kd.R_far (p := ⟨gb138, 2, none⟩) (Kd.R_far (p := ⟨gb138, 1, none⟩) (Kd.R_far (p := ⟨gb138, 0, none⟩) (Kd.R_types HO_5.out BK138.out (by decide)) (fun _ hk => hk.2) (.int .i64 ((rd_T99 s0_1 x21_1).f0.f0))) (fun _ hk => hk.2) (.int .i64 ((rd_T99 s0_1 x21_1).f0.f1))) (fun _ hk => hk.2) (.int .i64 ((rd_T99 s0_1 x21_1).f0.f2))) (fun _ hk => hk.2) (.int .i64 ((rd_T99 s0_1 x21_1).f0.f3))) (fun _ hk => hk.2) (.int .i64 ((rd_T99 s0_1 x21_1).f0.f4))) (fun _ hk => hk.2) (.int .i64 ((rd_T99 s0_1 x21_1).f0.f5))) (fun _ hk => hk.2) (.int .i64 ((rd_T99 s0_1 x21_1).f1))) (fun _ hk => hk.2) (.bool false)) (fun _ hk => hk.2) (.int .i64 ((rd_T99 s0_1 x21_1).f3))) (fun _ hk => trivial)))⟩; have n1_ : Aside0 (w25.heap[gb138]? = some (.cells #[.int .i64 ((rd_T99 s0_1 x21_1).f0.f0), .int .i64 ((rd_T99 s0_1 x21_1).f0.f1), .int .i64 ((rd_T99 s0_1 x21_1).f0.f2), .int .i64 ((rd_T99 s0_1 x21_1).f0.f3), .int .i64 ((rd_T99 s0_1 x21_1).f0.f4), .int .i64 ((rd_T99 s0_1 x21_1).f0.f5), .int .i64 ((rd_T99 s0_1 x21_1).f1), .bool false, .int .i64 ((rd_T99 s0_1 x21_1).f3)] 99 (0, 0))) := ⟨(by rw [hw]; exact (by (with_reducible repeat (first | refine blk_drewN ?_ _ | refine blk_drew ?_ | refine blk_alloc ?_ _)); refine blk_put (cs := #[.int .i64 ((rd_T99 s0_1 x21_1).f0.f0), .int .i64 ((rd_T99 s0_1 x21_1).f0.f1), .int .i64 ((rd_T99 s0_1 x21_1).f0.f2), .int .i64 ((rd_T99 s0_1 x21_1).f0.f3), .int .i64 ((rd_T99 s0_1 x21_1).f0.f4), .int .i64 ((rd_T99 s0_1 x21_1).f0.f5), .int .i64 ((rd_T99 s0_1 x21_1).f1), .bool false, .int .i64 0]) ?_ 8 _ rfl; (with_reducible repeat (first | refine blk_drewN ?_ _ | refine blk_drew ?_ | refine blk_alloc ?_ _)); refine blk_put (cs := #[.int .i64 ((rd_T99 s0_1 x21_1).f0.f0), .int .i64 ((rd_T99 s0_1 x21_1).f0.f1), .int .i64 ((rd_T99 s0_1 x21_1).f0.f2), .int .i64 ((rd_T99 s0_1 x21_1).f0.f3), .int .i64 ((rd_T99 s0_1 x21_1).f0.f4), .int .i64 ((rd_T99 s0_1 x21_1).f0.f5), .int .i64 ((rd_T99 s0_1 x21_1).f1), .bool false, .int .i64 0]) ?_ 7 _ rfl; (with_reducible repeat (first | refine blk_drewN ?_ _ | refine blk_drew ?_ | refine blk_alloc ?_ _)); refine blk_put (cs := #[.int .i64 ((rd_T99 s0_1 x21_1).f0.f0), .int .i64 ((rd_T99 s0_1 x21_1).f0.f1), .int .i64 ((rd_T99 s0_1 x21_1).f0.f2), .int .i64 ((rd_T99 s0_1 x21_1).f0.f3), .int .i64 ((rd_T99 s0_1 x21_1).f0.f4), .int .i64 ((rd_T99 s0_1 x21_1).f0.f5), .int .i64 0, .bool false, .int .i64 0]) ?_ 6 _ rfl; (with_reducible repeat (first | refine blk_drewN ?_ _ | refine blk_drew ?_ | refine blk_alloc ?_ _)); refine blk_put (cs := #[.int .i64 ((rd_T99 s0_1 x21_1).f0.f0), .int .i64 ((rd_T99 s0_1 x21_1).f0.f1), .int .i64 ((rd_T99 s0_1 x21_1).f0.f2), .int .i64 ((rd_T99 s0_1 x21_1).f0.f3), .int .i64 ((rd_T99 s0_1 x21_1).f0.f4), .int .i64 0, .int .i64 0, .bool false, .int .i64 0]) ?_ 5 _ rfl; (with_reducible repeat (first | refine blk_drewN ?_ _ | refine blk_drew ?_ | refine blk_alloc ?_ _)); refine blk_put (cs := #[.int .i64 ((rd_T99 s0_1 x21_1).f0.f0), .int .i64 ((rd_T99 s0_1 x21_1).f0.f1), .int .i64 ((rd_T99 s0_1 x21_1).f0.f2), .int .i64 ((rd_T99 s0_1 x21_1).f0.f3), .int .i64 0, .int .i64 0, .int .i64 0, .bool false, .int .i64 0]) ?_ 4 _ rfl; (with_reducible repeat (first | refine blk_drewN ?_ _ | refine blk_drew ?_ | refine blk_alloc ?_ _)); refine blk_put (cs := #[.int .i64 ((rd_T99 s0_1 x21_1).f0.f0), .int .i64 ((rd_T99 s0_1 x21_1).f0.f1), .int .i64 ((rd_T99 s0_1 x21_1).f0.f2), .int .i64 0, .int .i64 0, .int .i64 0, .int .i64 0, .bool false, .int .i64 0]) ?_ 3 _ rfl; (with_reducible repeat (first | refine blk_drewN ?_ _ | refine blk_drew ?_ | refine blk_alloc ?_ _)); refine blk_put (cs := #[.int .i64 ((rd_T99 s0_1 x21_1).f0.f0), .int .i64 ((rd_T99 s0_1 x21_1).f0.f1), .int .i64 0, .int .i64 0, .int .i64 0, .int .i64 0, .int .i64 0, .bool false, .int .i64 0]) ?_ 2 _ rfl; (with_reducible repeat (first | refine blk_drewN ?_ _ | refine blk_drew ?_ | refine blk_alloc ?_ _)); refine blk_put (cs := #[.int .i64 ((rd_T99 s0_1 x21_1).f0.f0), .int .i64 0, .int .i64 0, .int .i64 0, .int .i64 0, .int .i64 0, .int .i64 0, .bool false, .int .i64 0]) ?_ 1 _ rfl; (with_reducible repeat (first | refine blk_drewN ?_ _ | refine blk_drew ?_ | refine blk_alloc ?_ _)); refine blk_put (cs := #[.int .i64 0, .int .i64 0, .int .i64 0, .int .i64 0, .int .i64 0, .int .i64 0, .int .i64 0, .bool false, .int .i64 0]) ?_ 0 _ rfl; (with_reducible repeat (first | refine blk_drewN ?_ _ | refine blk_drew ?_ | refine blk_alloc ?_ _)); exact BK138.out))⟩; have n2_ : Aside0 (IsS96 hA_ hc_ w0 w25 g s0_0 s0_1 true) := ⟨(by rw [hw]; exact (by repeat (first | (with_reducible first | exact HI0.out | apply IsS96.alloc | apply IsS96.drewN | apply IsS96.drew | apply IsS96.set_0 | apply IsS96.set_2 | refine IsS96.far ?_ NB0_138.out _) | exact HI0.out)))⟩; have n3_ : Aside0 (KeepBut w w25 g none) := ⟨(by rw [hw]; exact (by repeat (first | (with_reducible first | exact HK.out | apply KeepBut.set_ | apply keep_drewN | apply keep_drew | apply keep_alloc | refine keep_far ?_ GW138.out _) | exact HK.out)))⟩; have n4_ : Aside0 (Below w0.heap.size w0 w25) := ⟨(by rw [hw]; exact (by repeat (first | (with_reducible first | exact HB.out | apply below_alloc | apply pw_below_drewN | apply below_drew1 | refine below_set ?_ (IsS96.ge HI0.out) | refine below_set ?_ GE138.out) | exact HB.out)))⟩; clear hw; clear HO_5; clear BK138; clear HI0; clear HK; clear HB; have HO_5 := n0_; have BK138 := n1_; have HI0 := n2_; have HK := n3_; have HB := n4_; clear n0_ n1_ n2_ n3_ n4_; have hcz26_0 : w25.cell? ⟨gb138, 0, none⟩ = some (.int .i64 ((rd_T99 s0_1 x21_1).f0.f0)) := (blk_cell BK138.out 0).trans rfl; have hcz26_1 : w25.cell? ⟨gb138, 1, none⟩ = some (.int .i64 ((rd_T99 s0_1 x21_1).f0.f1)) := (blk_cell BK138.out 1).trans rfl; have hcz26_2 : w25.cell? ⟨gb138, 2, none⟩ = some (.int .i64 ((rd_T99 s0_1 x21_1).f0.f2)) := (blk_cell BK138.out 2).trans rfl; have hcz26_3 : w25.cell? ⟨gb138, 3, none⟩ = some (.int .i64 ((rd_T99 s0_1 x21_1).f0.f3)) := (blk_cell BK138.out 3).trans rfl; have hcz26_4 : w25.cell? ⟨gb138, 4, none⟩ = some (.int .i64 ((rd_T99 s0_1 x21_1).f0.f4)) := (blk_cell BK138.out 4).trans rfl; have hcz26_5 : w25.cell? ⟨gb138, 5, none⟩ = some (.int .i64 ((rd_T99 s0_1 x21_1).f0.f5)) := (blk_cell BK138.out 5).trans rfl; have hcz26_6 : w25.cell? ⟨gb138, 6, none⟩ = some (.int .i64 ((rd_T99 s0_1 x21_1).f1)) := (blk_cell BK138.out 6).trans rfl; have hcz26_7 : w25.cell? ⟨gb138, 7, none⟩ = some (.bool false) := (blk_cell BK138.out 7).trans rfl; have hcz26_8 : w25.cell? ⟨gb138, 8, none⟩ = some (.int .i64 ((rd_T99 s0_1 x21_1).f3)) := (blk_cell BK138.out 8).trans rfl; have hfz26_0 := blk_frozen BK138.out 0; have hfz26_1 := blk_frozen BK138.out 1; have hfz26_2 := blk_frozen BK138.out 2; have hfz26_3 := blk_frozen BK138.out 3; have hfz26_4 := blk_frozen BK138.out 4; have hfz26_5 := blk_frozen BK138.out 5; have hfz26_6 := blk_frozen BK138.out 6; have hfz26_7 := blk_frozen BK138.out 7; have hfz26_8 := blk_frozen BK138.out 8; obtain ⟨ASz27_1, cSz27_1, HGz27, hgz27, HSz27_1⟩ := HI0.out; have hcz27_0 := cellS96_0 HGz27; have hcz27_1 := cellS96_1 HGz27; have hcz27_2 := cellS96_2 HGz27; have hfz27_0 := blk_frozen HGz27 0; have hfz27_2 := blk_frozen HGz27 2; clear HGz27 hgz27; have p20 : 0 ≤ (x21_1 : Int) := of_decide_eq_true (by first | (with_reducible assumption) | assumption); have q20 : (x21_1 : Int) < ((x5_1.length : Int) : Int) := of_decide_eq_true (by first | (with_reducible assumption) | assumption); obtain ⟨go20, co20, eo20, gb20, gl20, cl20, HG20⟩ := Kd.R_form HO_5.out (by omega); (first | cases eo20 | (injection eo20 with ea_ en_ ec_; (first | subst ea_ | (injection ea_ with ea_; subst ea_)); subst ec_; clear en_)); have GB20 := Aside0.mk gb20; have GG20 := Aside0.mk HG20; clear gb20 gl20 HG20; obtain ⟨hx20_0, hf20_0⟩ := Kd.R_celln 0 HO_5.out (x21_1 : Int) p20 q20; replace p20 := eq_true p20; replace q20 := eq_true q20; obtain ⟨hy28_, hz28_⟩ := Kd.R_celln 0 HO_5.out (x21_1 : Int) (of_decide_eq_true (by first | (with_reducible assumption) | assumption)) (of_decide_eq_true (by first | (with_reducible assumption) | assumption)); have HP28 := Kd.R_putg HO_5.out (x21_1 : Int) ((rd_T99 s0_1 x21_1).f0.f3)) | ((with_reducible refine gate_store (t := 3) (p := 50) rfl ?_); refine store_event (t := 3) (p := 50) (v := ?vo_w29) (w1 := (w25.setCell ⟨go20, (x21_1 : Int).toNat, none⟩ (.int .i64 ((rd_T99 s0_1 x21_1).f0.f3)))) ?hg ?ho ?hn ?hr ?_; (case ho => rfl); (case hg => rfl); (case hn => rfl); (case hr => first | (go_simp; done) | (go_simp; rfl)); intro w29 hw; have hg : w25.grownBy w29 (some go20) := (by rw [hw]; exact HP28.2); have hp_ : Kd.R (Kd.int .i64) 3 w29 w.heap.size (fun _ => True) (.slice (some ⟨go20, 0, none⟩) x5_1.length co20) y139 := (by rw [hw, Ny139.out]; exact HP28.1); clear HP28; have n0_ := Aside0.mk (hp_); have n1_ := Aside0.mk (IsS96.grown (by repeat (first | (with_reducible first | exact HI0.out | apply IsS96.alloc | apply IsS96.drewN | apply IsS96.drew | apply IsS96.set_0 | apply IsS96.set_2 | refine IsS96.far ?_ NB0_138.out _) | exact HI0.out)) hg (IsS96.own_ne HI0.out HO_5.out (by decide))); have n2_ := Aside0.mk (blk_grown (g := gb138) (o := .cells #[.int .i64 ((rd_T99 s0_1 x21_1).f0.f0), .int .i64 ((rd_T99 s0_1 x21_1).f0.f1), .int .i64 ((rd_T99 s0_1 x21_1).f0.f2), .int .i64 ((rd_T99 s0_1 x21_1).f0.f3), .int .i64 ((rd_T99 s0_1 x21_1).f0.f4), .int .i64 ((rd_T99 s0_1 x21_1).f0.f5), .int .i64 ((rd_T99 s0_1 x21_1).f1), .bool false, .int .i64 ((rd_T99 s0_1 x21_1).f3)] 99 (0, 0)) (by (with_reducible repeat (first | refine blk_drewN ?_ _ | refine blk_drew ?_ | refine blk_alloc ?_ _)); exact BK138.out) hg (Kd.R_ne HO_5.out BK138.out (by decide))); have n3_ := Aside0.mk ((by rw [hw]; exact below_set (HB.out) (Nat.le_trans HL.out GB20.out) : Below w0.heap.size w0 w29)); have n4_ := Aside0.mk (KeepBut.trans (by repeat (first | (with_reducible first | exact HK.out | apply KeepBut.set_ | apply keep_drewN | apply keep_drew | apply keep_alloc | refine keep_far ?_ GW138.out _) | exact HK.out)) (KeepBut.of_grown hg g) (Kd.R_base2 HO_5.out)); clear HO_5; clear HI0; clear BK138; clear HB; clear HK; have HO_5 := n0_; have HI0 := n1_; have BK138 := n2_; have HB := n3_; have HK := n4_; clear n0_ n1_ n2_ n3_ n4_; clear hg hw hp_))
                      go_roundg k1
                      case measure => have := HK1.out; omega
                      case rel => exact ⟨(y139), (wrap64 (x21_1 + 1)), (by first | rfl | (simp; done) | (simp [*]; done)), H', ⟨by have := HK1.out; omega⟩, ⟨by (with_reducible repeat (first | apply Kd.R_alloc | apply Kd.R_drewN | apply Kd.R_drew)); exact HO_5.out⟩, ⟨by repeat (first | (with_reducible first | exact HI0.out | apply IsS96.alloc | apply IsS96.drewN | apply IsS96.drew | apply IsS96.set_0 | apply IsS96.set_2 | refine IsS96.far ?_ NB0_138.out _) | exact HI0.out)⟩, ⟨by repeat (first | (with_reducible first | exact HK.out | apply KeepBut.set_ | apply keep_drewN | apply keep_drew | apply keep_alloc | refine keep_far ?_ GW138.out _) | exact HK.out)⟩, ⟨by repeat (first | (with_reducible first | exact HB.out | apply below_alloc | apply pw_below_drewN | apply below_drew1 | refine below_set ?_ (IsS96.ge HI0.out) | refine below_set ?_ GE138.out) | exact HB.out)⟩⟩
                    · rw [if_neg c19] at H
                      exact absurd H (by simp)
                  · replace c18 := Bool.eq_false_iff.mpr c18
                    subst c18
                    have H1 : ((fix_Part.f ((rd_T99 s0_1 x21_1).f0.f4) (mx 0 ((rd_T99 s0_1 x21_1).f0.f0)) 64).bind fun t140 => (if x21_1 < (x5_1.length : Int) then (flex_row_parts.l0 k1 a1 (x5_1.set (x21_1 : Int).toNat t140) s0_1 (s0_1.length : Int) (wrap64 (x21_1 + 1)) s0_0 s0_1 false) else (none))) = some (r1, r2, r3) := by rw [if_neg (show ¬ (false = true) by decide)] at H; exact H
                    clear H
                    have H := H1
                    clear H1
                    obtain ⟨ji30, hji30⟩ : ∃ j_ : Int, (mx 0 ((rd_T99 s0_1 x21_1).f0.f0)) = j_ := ⟨_, rfl⟩
                    replace H : ((fix_Part.f ((rd_T99 s0_1 x21_1).f0.f4) (ji30) 64).bind fun t140 => (if x21_1 < (x5_1.length : Int) then (flex_row_parts.l0 k1 a1 (x5_1.set (x21_1 : Int).toNat t140) s0_1 (s0_1.length : Int) (wrap64 (x21_1 + 1)) s0_0 s0_1 false) else (none))) = some (r1, r2, r3) := by first | (rw [hji30] at H; exact H) | (simp only [hji30] at H ⊢; exact H)
                    have hji30_ : (if 0 < ((rd_T99 s0_1 x21_1).f0.f0) then ((rd_T99 s0_1 x21_1).f0.f0) else 0) = ji30 := hji30
                    replace H := Option.bind_eq_some_iff.mp H
                    obtain ⟨t140, A310, H⟩ := H
                    replace H : (if x21_1 < (x5_1.length : Int) then (flex_row_parts.l0 k1 a1 (x5_1.set (x21_1 : Int).toNat t140) s0_1 (s0_1.length : Int) (wrap64 (x21_1 + 1)) s0_0 s0_1 false) else (none)) = some (r1, r2, r3) := H
                    have A31 := Aside0.mk A310
                    clear A310
                    by_cases c32 : x21_1 < (x5_1.length : Int)
                    · rw [if_pos c32] at H
                      have c32b0 : decide (x21_1 < (x5_1.length : Int)) = true := decide_eq_true c32
                      clear c32
                      obtain ⟨y141, hy141⟩ : ∃ y_ : List Int, y_ = (x5_1.set (x21_1 : Int).toNat t140) := ⟨_, rfl⟩
                      replace H : (flex_row_parts.l0 k1 a1 y141 s0_1 (s0_1.length : Int) (wrap64 (x21_1 + 1)) s0_0 s0_1 false) = some (r1, r2, r3) := by first | (rw [hy141]; with_reducible exact H) | (have H2_ := (Option.bind_some _ _).symm.trans H; rw [hy141]; with_reducible exact H2_) | (have H2_ := (Option.bind_some _ _).symm.trans H; with_reducible exact H2_) | with_reducible exact H | (rw [hy141]; exact H) | exact H
                      have Ny141 := Aside0.mk hy141
                      clear hy141
                      have H' := Aside0.mk H
                      clear H
                      obtain ⟨ASz34_1, cSz34_1, HGz34, hgz34, HSz34_1⟩ := HI0.out
                      have hcz34_0 := cellS96_0 HGz34
                      have hcz34_1 := cellS96_1 HGz34
                      have hcz34_2 := cellS96_2 HGz34
                      have hfz34_0 := blk_frozen HGz34 0
                      have hfz34_2 := blk_frozen HGz34 2
                      clear HGz34 hgz34
                      have p137 : 0 ≤ (x21_1 : Int) := of_decide_eq_true (by first | (with_reducible assumption) | assumption)
                      have q137 : x21_1 < (s0_1.length : Int) := of_decide_eq_true (by first | (with_reducible assumption) | assumption)
                      obtain ⟨ad137, e137, hx137_0, hx137_1, hx137_2, hx137_3, hx137_4, hx137_5, hx137_6, hx137_7, hx137_8⟩ := at_T99 HSz8_1 x21_1 p137 q137
                      (try rw [← Nbq12.out] at hx137_7)
                      cases e137
                      replace hx137_0 := pw_cell_below HB.out hx137_0
                      replace hx137_1 := pw_cell_below HB.out hx137_1
                      replace hx137_2 := pw_cell_below HB.out hx137_2
                      replace hx137_3 := pw_cell_below HB.out hx137_3
                      replace hx137_4 := pw_cell_below HB.out hx137_4
                      replace hx137_5 := pw_cell_below HB.out hx137_5
                      replace hx137_6 := pw_cell_below HB.out hx137_6
                      replace hx137_7 := pw_cell_below HB.out hx137_7
                      replace hx137_8 := pw_cell_below HB.out hx137_8
                      replace p137 := eq_true p137
                      replace q137 := eq_true q137
                      go_wp2_with (first | ((with_reducible refine gate_dst (N := 7) rfl ?_); refine box_event ?hg (N := 7) ?hd (cs := #[.int .i64 0, .int .i64 0, .int .i64 0, .int .i64 0, .int .i64 0, .int .i64 0, .int .i64 0, .bool false, .int .i64 0]) (t := 99) ?hr ?_; (case hd => rfl); (case hg => rfl); (case hr => first | (go_simp; done) | (go_simp; rfl)); intro gb138 hg w35 hbox hb; have n0_ := Aside0.mk (Kd.R_below (by (with_reducible repeat (first | apply Kd.R_alloc | apply Kd.R_drewN | apply Kd.R_drew)); exact HO_5.out) hb); have n1_ := Aside0.mk (IsS96.below (by repeat (first | (with_reducible first | exact HI0.out | apply IsS96.alloc | apply IsS96.drewN | apply IsS96.drew | apply IsS96.set_0 | apply IsS96.set_2) | exact HI0.out)) hb); have n2_ := Aside0.mk (KeepBut.trans (by repeat (first | (with_reducible first | exact HK.out | apply KeepBut.set_ | apply keep_drewN | apply keep_drew | apply keep_alloc) | exact HK.out)) (KeepBut.of_below hb g none) (.inl rfl)); have n3_ := Aside0.mk (below_step (by repeat (first | (with_reducible first | exact HB.out | apply below_alloc | apply pw_below_drewN | apply below_drew1 | refine below_set ?_ (IsS96.ge HI0.out)) | exact HB.out)) hb); have n4_ := Aside0.mk (hbox); have n5_ := Aside0.mk ((by rw [hg]; exact (keep_size (w := w) (g := g) (row := none) (by repeat (first | (with_reducible first | exact HK.out | apply KeepBut.set_ | apply keep_drewN | apply keep_drew | apply keep_alloc) | exact HK.out))) : w.heap.size ≤ gb138)); have n6_ := Aside0.mk ((Nat.le_trans HW0.out (by rw [hg]; exact (keep_size (w := w) (g := g) (row := none) (by repeat (first | (with_reducible first | exact HK.out | apply KeepBut.set_ | apply keep_drewN | apply keep_drew | apply keep_alloc) | exact HK.out))) : w.heap.size ≤ gb138) : w0.heap.size ≤ gb138)); have n7_ := Aside0.mk ((by rw [hg]; exact Nat.ne_of_lt (IsS96.lt (show IsS96 hA_ hc_ w0 _ g s0_0 s0_1 false from by repeat (first | (with_reducible first | exact HI0.out | apply IsS96.alloc | apply IsS96.drewN | apply IsS96.drew | apply IsS96.set_0 | apply IsS96.set_2) | exact HI0.out))) : g ≠ gb138)); have n8_ := Aside0.mk ((by rw [hg]; exact Nat.ne_of_gt (IsS96.lt (show IsS96 hA_ hc_ w0 _ g s0_0 s0_1 false from by repeat (first | (with_reducible first | exact HI0.out | apply IsS96.alloc | apply IsS96.drewN | apply IsS96.drew | apply IsS96.set_0 | apply IsS96.set_2) | exact HI0.out))) : gb138 ≠ g)); clear HO_5; clear HI0; clear HK; clear HB; have HO_5 := n0_; have HI0 := n1_; have HK := n2_; have HB := n3_; have BK138 := n4_; have GW138 := n5_; have GE138 := n6_; have NB0_138 := n7_; have NB138_0 := n8_; clear n0_ n1_ n2_ n3_ n4_ n5_ n6_ n7_ n8_; clear hb hbox hg; have hnb36 := NB138_0.out; have hnc36 := NB0_138.out; have hcz37_0 : w35.cell? ⟨gb138, 0, none⟩ = some (.int .i64 0) := (blk_cell BK138.out 0).trans rfl; have hcz37_1 : w35.cell? ⟨gb138, 1, none⟩ = some (.int .i64 0) := (blk_cell BK138.out 1).trans rfl; have hcz37_2 : w35.cell? ⟨gb138, 2, none⟩ = some (.int .i64 0) := (blk_cell BK138.out 2).trans rfl; have hcz37_3 : w35.cell? ⟨gb138, 3, none⟩ = some (.int .i64 0) := (blk_cell BK138.out 3).trans rfl; have hcz37_4 : w35.cell? ⟨gb138, 4, none⟩ = some (.int .i64 0) := (blk_cell BK138.out 4).trans rfl; have hcz37_5 : w35.cell? ⟨gb138, 5, none⟩ = some (.int .i64 0) := (blk_cell BK138.out 5).trans rfl; have hcz37_6 : w35.cell? ⟨gb138, 6, none⟩ = some (.int .i64 0) := (blk_cell BK138.out 6).trans rfl; have hcz37_7 : w35.cell? ⟨gb138, 7, none⟩ = some (.bool false) := (blk_cell BK138.out 7).trans rfl; have hcz37_8 : w35.cell? ⟨gb138, 8, none⟩ = some (.int .i64 0) := (blk_cell BK138.out 8).trans rfl; have hfz37_0 := blk_frozen BK138.out 0; have hfz37_1 := blk_frozen BK138.out 1; have hfz37_2 := blk_frozen BK138.out 2; have hfz37_3 := blk_frozen BK138.out 3; have hfz37_4 := blk_frozen BK138.out 4; have hfz37_5 := blk_frozen BK138.out 5; have hfz37_6 := blk_frozen BK138.out 6; have hfz37_7 := blk_frozen BK138.out 7; have hfz37_8 := blk_frozen BK138.out 8; obtain ⟨ASz38_1, cSz38_1, HGz38, hgz38, HSz38_1⟩ := HI0.out; have hcz38_0 := cellS96_0 HGz38; have hcz38_1 := cellS96_1 HGz38; have hcz38_2 := cellS96_2 HGz38; have hfz38_0 := blk_frozen HGz38 0; have hfz38_2 := blk_frozen HGz38 2; clear HGz38 hgz38) | ((with_reducible refine gate_callee (f := 54) rfl ?_); refine goesL_ (some 35) rfl rfl Try.func54 (by kernel_rfl) rfl #[.int .i64 ((rd_T99 s0_1 x21_1).f0.f4), .int .i64 ji30, .int .i64 64] rfl (by (try simp only [List.map_toArray, List.map_cons, List.map_nil]); first | done | (simp only [hji30]; rfl) | rfl | (simp only [List.length_drop, List.length_take]; rfl)) ?_; (with_reducible refine (fix_Part.calls ((rd_T99 s0_1 x21_1).f0.f4) ji30 64 t140 _ A31.out).mono ?_); rintro e w39 ⟨rfl, hb⟩; refine ⟨_, rfl, ?_⟩; have n0_ := Aside0.mk (Kd.R_below (by (with_reducible repeat (first | apply Kd.R_alloc | apply Kd.R_drewN | apply Kd.R_drew)); exact (Kd.R_mono (Kd.R_far (p := ⟨gb138, 8, none⟩) (Kd.R_far (p := ⟨gb138, 7, none⟩) (Kd.R_far (p := ⟨gb138, 6, none⟩) (Kd.R_far (p := ⟨gb138, 5, none⟩) (Kd.R_far (p := ⟨gb138, 4, none⟩) (Kd.R_far (p := ⟨gb138, 3, none⟩) (Kd.R_far (p := ⟨gb138, 2, none⟩) (Kd.R_far (p := ⟨gb138, 1, none⟩) (Kd.R_far (p := ⟨gb138, 0, none⟩) (Kd.R_types HO_5.out BK138.out (by decide)) (fun _ hk => hk.2) (.int .i64 ((rd_T99 s0_1 x21_1).f0.f0))) (fun _ hk => hk.2) (.int .i64 ((rd_T99 s0_1 x21_1).f0.f1))) (fun _ hk => hk.2) (.int .i64 ((rd_T99 s0_1 x21_1).f0.f2))) (fun _ hk => hk.2) (.int .i64 ((rd_T99 s0_1 x21_1).f0.f3))) (fun _ hk => hk.2) (.int .i64 ((rd_T99 s0_1 x21_1).f0.f4))) (fun _ hk => hk.2) (.int .i64 ((rd_T99 s0_1 x21_1).f0.f5))) (fun _ hk => hk.2) (.int .i64 ((rd_T99 s0_1 x21_1).f1))) (fun _ hk => hk.2) (.bool false)) (fun _ hk => hk.2) (.int .i64 ((rd_T99 s0_1 x21_1).f3))) (fun _ h_ => h_.1))) hb); have n1_ := Aside0.mk (IsS96.below (show IsS96 hA_ hc_ w0 (((((((((w35.setCell ⟨gb138, 0, none⟩ (.int .i64 ((rd_T99 s0_1 x21_1).f0.f0))).setCell ⟨gb138, 1, none⟩ (.int .i64 ((rd_T99 s0_1 x21_1).f0.f1))).setCell ⟨gb138, 2, none⟩ (.int .i64 ((rd_T99 s0_1 x21_1).f0.f2))).setCell ⟨gb138, 3, none⟩ (.int .i64 ((rd_T99 s0_1 x21_1).f0.f3))).setCell ⟨gb138, 4, none⟩ (.int .i64 ((rd_T99 s0_1 x21_1).f0.f4))).setCell ⟨gb138, 5, none⟩ (.int .i64 ((rd_T99 s0_1 x21_1).f0.f5))).setCell ⟨gb138, 6, none⟩ (.int .i64 ((rd_T99 s0_1 x21_1).f1))).setCell ⟨gb138, 7, none⟩ (.bool false)).setCell ⟨gb138, 8, none⟩ (.int .i64 ((rd_T99 s0_1 x21_1).f3))) g s0_0 s0_1 false from by repeat (first | (with_reducible first | exact HI0.out | apply IsS96.alloc | apply IsS96.drewN | apply IsS96.drew | apply IsS96.set_0 | apply IsS96.set_2 | refine IsS96.far ?_ NB0_138.out _) | exact HI0.out)) hb); have n2_ := Aside0.mk (blk_below (g := gb138) (o := .cells #[.int .i64 ((rd_T99 s0_1 x21_1).f0.f0), .int .i64 ((rd_T99 s0_1 x21_1).f0.f1), .int .i64 ((rd_T99 s0_1 x21_1).f0.f2), .int .i64 ((rd_T99 s0_1 x21_1).f0.f3), .int .i64 ((rd_T99 s0_1 x21_1).f0.f4), .int .i64 ((rd_T99 s0_1 x21_1).f0.f5), .int .i64 ((rd_T99 s0_1 x21_1).f1), .bool false, .int .i64 ((rd_T99 s0_1 x21_1).f3)] 99 (0, 0)) (by (with_reducible repeat (first | refine blk_drewN ?_ _ | refine blk_drew ?_ | refine blk_alloc ?_ _)); refine blk_put (cs := #[.int .i64 ((rd_T99 s0_1 x21_1).f0.f0), .int .i64 ((rd_T99 s0_1 x21_1).f0.f1), .int .i64 ((rd_T99 s0_1 x21_1).f0.f2), .int .i64 ((rd_T99 s0_1 x21_1).f0.f3), .int .i64 ((rd_T99 s0_1 x21_1).f0.f4), .int .i64 ((rd_T99 s0_1 x21_1).f0.f5), .int .i64 ((rd_T99 s0_1 x21_1).f1), .bool false, .int .i64 0]) ?_ 8 _ rfl; (with_reducible repeat (first | refine blk_drewN ?_ _ | refine blk_drew ?_ | refine blk_alloc ?_ _)); refine blk_put (cs := #[.int .i64 ((rd_T99 s0_1 x21_1).f0.f0), .int .i64 ((rd_T99 s0_1 x21_1).f0.f1), .int .i64 ((rd_T99 s0_1 x21_1).f0.f2), .int .i64 ((rd_T99 s0_1 x21_1).f0.f3), .int .i64 ((rd_T99 s0_1 x21_1).f0.f4), .int .i64 ((rd_T99 s0_1 x21_1).f0.f5), .int .i64 ((rd_T99 s0_1 x21_1).f1), .bool false, .int .i64 0]) ?_ 7 _ rfl; (with_reducible repeat (first | refine blk_drewN ?_ _ | refine blk_drew ?_ | refine blk_alloc ?_ _)); refine blk_put (cs := #[.int .i64 ((rd_T99 s0_1 x21_1).f0.f0), .int .i64 ((rd_T99 s0_1 x21_1).f0.f1), .int .i64 ((rd_T99 s0_1 x21_1).f0.f2), .int .i64 ((rd_T99 s0_1 x21_1).f0.f3), .int .i64 ((rd_T99 s0_1 x21_1).f0.f4), .int .i64 ((rd_T99 s0_1 x21_1).f0.f5), .int .i64 0, .bool false, .int .i64 0]) ?_ 6 _ rfl; (with_reducible repeat (first | refine blk_drewN ?_ _ | refine blk_drew ?_ | refine blk_alloc ?_ _)); refine blk_put (cs := #[.int .i64 ((rd_T99 s0_1 x21_1).f0.f0), .int .i64 ((rd_T99 s0_1 x21_1).f0.f1), .int .i64 ((rd_T99 s0_1 x21_1).f0.f2), .int .i64 ((rd_T99 s0_1 x21_1).f0.f3), .int .i64 ((rd_T99 s0_1 x21_1).f0.f4), .int .i64 0, .int .i64 0, .bool false, .int .i64 0]) ?_ 5 _ rfl; (with_reducible repeat (first | refine blk_drewN ?_ _ | refine blk_drew ?_ | refine blk_alloc ?_ _)); refine blk_put (cs := #[.int .i64 ((rd_T99 s0_1 x21_1).f0.f0), .int .i64 ((rd_T99 s0_1 x21_1).f0.f1), .int .i64 ((rd_T99 s0_1 x21_1).f0.f2), .int .i64 ((rd_T99 s0_1 x21_1).f0.f3), .int .i64 0, .int .i64 0, .int .i64 0, .bool false, .int .i64 0]) ?_ 4 _ rfl; (with_reducible repeat (first | refine blk_drewN ?_ _ | refine blk_drew ?_ | refine blk_alloc ?_ _)); refine blk_put (cs := #[.int .i64 ((rd_T99 s0_1 x21_1).f0.f0), .int .i64 ((rd_T99 s0_1 x21_1).f0.f1), .int .i64 ((rd_T99 s0_1 x21_1).f0.f2), .int .i64 0, .int .i64 0, .int .i64 0, .int .i64 0, .bool false, .int .i64 0]) ?_ 3 _ rfl; (with_reducible repeat (first | refine blk_drewN ?_ _ | refine blk_drew ?_ | refine blk_alloc ?_ _)); refine blk_put (cs := #[.int .i64 ((rd_T99 s0_1 x21_1).f0.f0), .int .i64 ((rd_T99 s0_1 x21_1).f0.f1), .int .i64 0, .int .i64 0, .int .i64 0, .int .i64 0, .int .i64 0, .bool false, .int .i64 0]) ?_ 2 _ rfl; (with_reducible repeat (first | refine blk_drewN ?_ _ | refine blk_drew ?_ | refine blk_alloc ?_ _)); refine blk_put (cs := #[.int .i64 ((rd_T99 s0_1 x21_1).f0.f0), .int .i64 0, .int .i64 0, .int .i64 0, .int .i64 0, .int .i64 0, .int .i64 0, .bool false, .int .i64 0]) ?_ 1 _ rfl; (with_reducible repeat (first | refine blk_drewN ?_ _ | refine blk_drew ?_ | refine blk_alloc ?_ _)); refine blk_put (cs := #[.int .i64 0, .int .i64 0, .int .i64 0, .int .i64 0, .int .i64 0, .int .i64 0, .int .i64 0, .bool false, .int .i64 0]) ?_ 0 _ rfl; (with_reducible repeat (first | refine blk_drewN ?_ _ | refine blk_drew ?_ | refine blk_alloc ?_ _)); exact BK138.out) hb); have n3_ := Aside0.mk (KeepBut.trans (by repeat (first | (with_reducible first | exact HK.out | apply KeepBut.set_ | apply keep_drewN | apply keep_drew | apply keep_alloc | refine keep_far ?_ GW138.out _) | exact HK.out)) (KeepBut.of_below hb g none) (.inl rfl)); have n4_ := Aside0.mk (below_step (by repeat (first | (with_reducible first | exact HB.out | apply below_alloc | apply pw_below_drewN | apply below_drew1 | refine below_set ?_ (IsS96.ge HI0.out) | refine below_set ?_ GE138.out) | exact HB.out)) hb); clear HO_5; clear HI0; clear BK138; clear HK; clear HB; have HO_5 := n0_; have HI0 := n1_; have BK138 := n2_; have HK := n3_; have HB := n4_; clear n0_ n1_ n2_ n3_ n4_; (try clear hb); (try clear hb2); (try clear hk); (try clear hi); have p33 : 0 ≤ (x21_1 : Int) := of_decide_eq_true (by first | (with_reducible assumption) | assumption); have q33 : (x21_1 : Int) < ((x5_1.length : Int) : Int) := of_decide_eq_true (by first | (with_reducible assumption) | assumption); obtain ⟨go33, co33, eo33, gb33, gl33, cl33, HG33⟩ := Kd.R_form HO_5.out (by omega); (first | cases eo33 | (injection eo33 with ea_ en_ ec_; (first | subst ea_ | (injection ea_ with ea_; subst ea_)); subst ec_; clear en_)); have GB33 := Aside0.mk gb33; have GG33 := Aside0.mk HG33; clear gb33 gl33 HG33; obtain ⟨hx33_0, hf33_0⟩ := Kd.R_celln 0 HO_5.out (x21_1 : Int) p33 q33; replace p33 := eq_true p33; replace q33 := eq_true q33; obtain ⟨hy40_, hz40_⟩ := Kd.R_celln 0 HO_5.out (x21_1 : Int) (of_decide_eq_true (by first | (with_reducible assumption) | assumption)) (of_decide_eq_true (by first | (with_reducible assumption) | assumption)); have HP40 := Kd.R_putg HO_5.out (x21_1 : Int) t140) | ((with_reducible refine gate_store (t := 3) (p := 36) rfl ?_); refine store_event (t := 3) (p := 36) (v := ?vo_w41) (w1 := (w39.setCell ⟨go33, (x21_1 : Int).toNat, none⟩ (.int .i64 t140))) ?hg ?ho ?hn ?hr ?_; (case ho => rfl); (case hg => rfl); (case hn => rfl); (case hr => first | (go_simp; done) | (go_simp; rfl)); intro w41 hw; have hg : w39.grownBy w41 (some go33) := (by rw [hw]; exact HP40.2); have hp_ : Kd.R (Kd.int .i64) 3 w41 w.heap.size (fun _ => True) (.slice (some ⟨go33, 0, none⟩) x5_1.length co33) y141 := (by rw [hw, Ny141.out]; exact HP40.1); clear HP40; have n0_ := Aside0.mk (hp_); have n1_ := Aside0.mk (IsS96.grown (by repeat (first | (with_reducible first | exact HI0.out | apply IsS96.alloc | apply IsS96.drewN | apply IsS96.drew | apply IsS96.set_0 | apply IsS96.set_2 | refine IsS96.far ?_ NB0_138.out _) | exact HI0.out)) hg (IsS96.own_ne HI0.out HO_5.out (by decide))); have n2_ := Aside0.mk (blk_grown (g := gb138) (o := .cells #[.int .i64 ((rd_T99 s0_1 x21_1).f0.f0), .int .i64 ((rd_T99 s0_1 x21_1).f0.f1), .int .i64 ((rd_T99 s0_1 x21_1).f0.f2), .int .i64 ((rd_T99 s0_1 x21_1).f0.f3), .int .i64 ((rd_T99 s0_1 x21_1).f0.f4), .int .i64 ((rd_T99 s0_1 x21_1).f0.f5), .int .i64 ((rd_T99 s0_1 x21_1).f1), .bool false, .int .i64 ((rd_T99 s0_1 x21_1).f3)] 99 (0, 0)) (by (with_reducible repeat (first | refine blk_drewN ?_ _ | refine blk_drew ?_ | refine blk_alloc ?_ _)); exact BK138.out) hg (Kd.R_ne HO_5.out BK138.out (by decide))); have n3_ := Aside0.mk ((by rw [hw]; exact below_set (HB.out) (Nat.le_trans HL.out GB33.out) : Below w0.heap.size w0 w41)); have n4_ := Aside0.mk (KeepBut.trans (by repeat (first | (with_reducible first | exact HK.out | apply KeepBut.set_ | apply keep_drewN | apply keep_drew | apply keep_alloc | refine keep_far ?_ GW138.out _) | exact HK.out)) (KeepBut.of_grown hg g) (Kd.R_base2 HO_5.out)); clear HO_5; clear HI0; clear BK138; clear HB; clear HK; have HO_5 := n0_; have HI0 := n1_; have BK138 := n2_; have HB := n3_; have HK := n4_; clear n0_ n1_ n2_ n3_ n4_; clear hg hw hp_))
                      go_roundg k1
                      case measure => have := HK1.out; omega
                      case rel => exact ⟨(y141), (wrap64 (x21_1 + 1)), (by first | rfl | (simp; done) | (simp [*]; done)), H', ⟨by have := HK1.out; omega⟩, ⟨by (with_reducible repeat (first | apply Kd.R_alloc | apply Kd.R_drewN | apply Kd.R_drew)); exact HO_5.out⟩, ⟨by repeat (first | (with_reducible first | exact HI0.out | apply IsS96.alloc | apply IsS96.drewN | apply IsS96.drew | apply IsS96.set_0 | apply IsS96.set_2 | refine IsS96.far ?_ NB0_138.out _) | exact HI0.out)⟩, ⟨by repeat (first | (with_reducible first | exact HK.out | apply KeepBut.set_ | apply keep_drewN | apply keep_drew | apply keep_alloc | refine keep_far ?_ GW138.out _) | exact HK.out)⟩, ⟨by repeat (first | (with_reducible first | exact HB.out | apply below_alloc | apply pw_below_drewN | apply below_drew1 | refine below_set ?_ (IsS96.ge HI0.out) | refine below_set ?_ GE138.out) | exact HB.out)⟩⟩
                    · rw [if_neg c32] at H
                      exact absurd H (by simp)
              · rw [if_neg c11] at H
                exact absurd H (by simp)
            · rw [if_neg c10] at H
              exact absurd H (by simp)
          · rw [if_neg c9] at H
            have c9b0 : decide (x21_1 < (s0_1.length : Int)) = false := decide_eq_false c9
            clear c9
            by_cases c42 : s0_2 = true
            · subst c42
              have H1 : ((fix_Share.f (mx 0 a1) x5_1).bind fun t142 => (some (t142, s0_0, true))) = some (r1, r2, r3) := by rw [if_pos rfl] at H; exact H
              clear H
              have H := H1
              clear H1
              obtain ⟨ji43, hji43⟩ : ∃ j_ : Int, (mx 0 a1) = j_ := ⟨_, rfl⟩
              replace H : ((fix_Share.f (ji43) x5_1).bind fun t142 => (some (t142, s0_0, true))) = some (r1, r2, r3) := by first | (rw [hji43] at H; exact H) | (simp only [hji43] at H ⊢; exact H)
              have hji43_ : (if 0 < a1 then a1 else 0) = ji43 := hji43
              replace H := Option.bind_eq_some_iff.mp H
              obtain ⟨t142, A440, H⟩ := H
              replace H : (some (t142, s0_0, true)) = some (r1, r2, r3) := H
              have A44 := Aside0.mk A440
              clear A440
              simp only [Option.some.injEq, Prod.mk.injEq] at H
              obtain ⟨rfl, rfl, rfl⟩ := H
              obtain ⟨ASz45_1, cSz45_1, HGz45, hgz45, HSz45_1⟩ := HI0.out
              have hcz45_0 := cellS96_0 HGz45
              have hcz45_1 := cellS96_1 HGz45
              have hcz45_2 := cellS96_2 HGz45
              have hfz45_0 := blk_frozen HGz45 0
              have hfz45_2 := blk_frozen HGz45 2
              clear HGz45 hgz45
              obtain ⟨Ao46, co46, eo46⟩ := Kd.R_slice HO_5.out
              subst eo46
              go_wp2_with (first | ((with_reducible refine gate_callee (f := 80) rfl ?_); refine goesL_ (some 59) rfl rfl Try.func80 (by kernel_rfl) rfl #[.int .i64 ji43, .slice Ao46 x5_1.length co46] rfl (by (try simp only [List.map_toArray, List.map_cons, List.map_nil]); first | done | (simp only [hji43]; rfl) | rfl | (simp only [List.length_drop, List.length_take]; rfl)) ?_; (with_reducible refine (fix_Share.calls ji43 _ _ x5_1 t142 _ ?side1 ?side2 A44.out).mono ?_); (case side1 => repeat (first | exact (Kd.R_reads' HO_5.out).2.2 | (with_reducible refine Kd.C_alloc ?_ _) | (with_reducible refine Kd.C_drewN ?_ _) | (with_reducible refine Kd.C_drew ?_))); (case side2 => exact (Kd.R_reads' HO_5.out).2.1); rintro e w47 ⟨v143, rfl, ho0, hb⟩; refine ⟨_, rfl, ?_⟩; have n0_ := Aside0.mk (Kd.R_elder' (by (with_reducible repeat (first | apply Kd.R_alloc | apply Kd.R_drewN | apply Kd.R_drew)); exact HO_5.out) (Kd.R_base ho0) hb); have n1_ := Aside0.mk (Kd.R_lower (Kd.R_new' ho0 (Kd.R_lt (by (with_reducible repeat (first | apply Kd.R_alloc | apply Kd.R_drewN | apply Kd.R_drew)); exact HO_5.out))) (keep_size (w := w) (g := g) (row := none) (by repeat (first | (with_reducible first | exact HK.out | apply KeepBut.set_ | apply keep_drewN | apply keep_drew | apply keep_alloc) | exact HK.out)))); have n2_ := Aside0.mk (IsS96.below (by repeat (first | (with_reducible first | exact HI0.out | apply IsS96.alloc | apply IsS96.drewN | apply IsS96.drew | apply IsS96.set_0 | apply IsS96.set_2) | exact HI0.out)) hb); have n3_ := Aside0.mk (KeepBut.trans (by repeat (first | (with_reducible first | exact HK.out | apply KeepBut.set_ | apply keep_drewN | apply keep_drew | apply keep_alloc) | exact HK.out)) (KeepBut.of_below hb g none) (.inl rfl)); have n4_ := Aside0.mk (below_step (by repeat (first | (with_reducible first | exact HB.out | apply below_alloc | apply pw_below_drewN | apply below_drew1 | refine below_set ?_ (IsS96.ge HI0.out)) | exact HB.out)) hb); clear HO_5; clear HI0; clear HK; clear HB; have HO_5 := n0_; have HO144 := n1_; have HI0 := n2_; have HK := n3_; have HB := n4_; clear n0_ n1_ n2_ n3_ n4_; (try clear hb); (try clear hb2); (try clear hk); (try clear hi); (try clear ho0)))
              go_ret
              exact ⟨_, by first | rfl | (simp [errW_none, errW_some] <;> rfl) | (simp only [← hji43]; first | rfl | (simp [errW_none, errW_some] <;> rfl)) | (simp [*, errW_none, errW_some] <;> rfl), by (with_reducible repeat (first | apply Kd.R_alloc | apply Kd.R_drewN | apply Kd.R_drew)); exact Kd.R_mono HO144.out (fun _ hk => trivial), by repeat (first | (with_reducible first | exact HI0.out | apply IsS96.alloc | apply IsS96.drewN | apply IsS96.drew | apply IsS96.set_0 | apply IsS96.set_2) | exact HI0.out), by repeat (first | (with_reducible first | exact HB.out | apply below_alloc | apply pw_below_drewN | apply below_drew1 | refine below_set ?_ (IsS96.ge HI0.out)) | exact HB.out), by repeat (first | (with_reducible first | exact HK.out | apply KeepBut.set_ | apply keep_drewN | apply keep_drew | apply keep_alloc) | exact HK.out)⟩
            · replace c42 := Bool.eq_false_iff.mpr c42
              subst c42
              have H1 : ((fix_Share.f (mx 0 (wrap64 (-a1))) x5_1).bind fun t145 => (flex_row_parts.l1 k1 t145 (t145.length : Int) 0 s0_0 s0_1 false)) = some (r1, r2, r3) := by rw [if_neg (show ¬ (false = true) by decide)] at H; exact H
              clear H
              have H := H1
              clear H1
              obtain ⟨ji48, hji48⟩ : ∃ j_ : Int, (mx 0 (wrap64 (-a1))) = j_ := ⟨_, rfl⟩
              replace H : ((fix_Share.f (ji48) x5_1).bind fun t145 => (flex_row_parts.l1 k1 t145 (t145.length : Int) 0 s0_0 s0_1 false)) = some (r1, r2, r3) := by first | (rw [hji48] at H; exact H) | (simp only [hji48] at H ⊢; exact H)
              have hji48_ : (if 0 < (wrap64 (-a1)) then (wrap64 (-a1)) else 0) = ji48 := hji48
              replace H := Option.bind_eq_some_iff.mp H
              obtain ⟨t145, A490, H⟩ := H
              replace H : (flex_row_parts.l1 k1 t145 (t145.length : Int) 0 s0_0 s0_1 false) = some (r1, r2, r3) := H
              have A49 := Aside0.mk A490
              clear A490
              have H' := Aside0.mk H
              clear H
              obtain ⟨ASz50_1, cSz50_1, HGz50, hgz50, HSz50_1⟩ := HI0.out
              have hcz50_0 := cellS96_0 HGz50
              have hcz50_1 := cellS96_1 HGz50
              have hcz50_2 := cellS96_2 HGz50
              have hfz50_0 := blk_frozen HGz50 0
              have hfz50_2 := blk_frozen HGz50 2
              clear HGz50 hgz50
              obtain ⟨Ao51, co51, eo51⟩ := Kd.R_slice HO_5.out
              subst eo51
              go_wp2_with (first | ((with_reducible refine gate_callee (f := 80) rfl ?_); refine goesL_ (some 64) rfl rfl Try.func80 (by kernel_rfl) rfl #[.int .i64 ji48, .slice Ao51 x5_1.length co51] rfl (by (try simp only [List.map_toArray, List.map_cons, List.map_nil]); first | done | (simp only [hji48]; rfl) | rfl | (simp only [List.length_drop, List.length_take]; rfl)) ?_; (with_reducible refine (fix_Share.calls ji48 _ _ x5_1 t145 _ ?side1 ?side2 A49.out).mono ?_); (case side1 => repeat (first | exact (Kd.R_reads' HO_5.out).2.2 | (with_reducible refine Kd.C_alloc ?_ _) | (with_reducible refine Kd.C_drewN ?_ _) | (with_reducible refine Kd.C_drew ?_))); (case side2 => exact (Kd.R_reads' HO_5.out).2.1); rintro e w52 ⟨v146, rfl, ho0, hb⟩; refine ⟨_, rfl, ?_⟩; have n0_ := Aside0.mk (Kd.R_elder' (by (with_reducible repeat (first | apply Kd.R_alloc | apply Kd.R_drewN | apply Kd.R_drew)); exact HO_5.out) (Kd.R_base ho0) hb); have n1_ := Aside0.mk (Kd.R_lower (Kd.R_new' ho0 (Kd.R_lt (by (with_reducible repeat (first | apply Kd.R_alloc | apply Kd.R_drewN | apply Kd.R_drew)); exact HO_5.out))) (keep_size (w := w) (g := g) (row := none) (by repeat (first | (with_reducible first | exact HK.out | apply KeepBut.set_ | apply keep_drewN | apply keep_drew | apply keep_alloc) | exact HK.out)))); have n2_ := Aside0.mk (IsS96.below (by repeat (first | (with_reducible first | exact HI0.out | apply IsS96.alloc | apply IsS96.drewN | apply IsS96.drew | apply IsS96.set_0 | apply IsS96.set_2) | exact HI0.out)) hb); have n3_ := Aside0.mk (KeepBut.trans (by repeat (first | (with_reducible first | exact HK.out | apply KeepBut.set_ | apply keep_drewN | apply keep_drew | apply keep_alloc) | exact HK.out)) (KeepBut.of_below hb g none) (.inl rfl)); have n4_ := Aside0.mk (below_step (by repeat (first | (with_reducible first | exact HB.out | apply below_alloc | apply pw_below_drewN | apply below_drew1 | refine below_set ?_ (IsS96.ge HI0.out)) | exact HB.out)) hb); clear HO_5; clear HI0; clear HK; clear HB; have HO_5 := n0_; have HO147 := n1_; have HI0 := n2_; have HK := n3_; have HB := n4_; clear n0_ n1_ n2_ n3_ n4_; (try clear hb); (try clear hb2); (try clear hk); (try clear hi); (try clear ho0); obtain ⟨Ao53, co53, eo53⟩ := Kd.R_slice HO147.out; subst eo53))
              go_loopg [67] k1 (fun kq v67 w' => ∃ (x8_2 : List Int) (x67_2 : Int), v67 = .int .i64 x67_2 ∧ Aside0 (flex_row_parts.l1 kq x8_2 (t145.length : Int) x67_2 s0_0 s0_1 false = some (r1, r2, r3)) ∧ Aside0 (kq ≤ k1) ∧ Aside0 (Kd.R (Kd.int .i64) 3 w' w.heap.size (fun _ => True) (.slice Ao53 t145.length co53) x8_2) ∧ Aside0 (IsS96 hA_ hc_ w0 w' g s0_0 s0_1 false) ∧ Aside0 (KeepBut w w' g none) ∧ Aside0 (Below w0.heap.size w0 w'))
              case atStart => exact ⟨(t145), (0), (by first | rfl | (simp; done) | (simp [*]; done)), H', ⟨Nat.le_refl _⟩, ⟨by (with_reducible repeat (first | apply Kd.R_alloc | apply Kd.R_drewN | apply Kd.R_drew)); exact Kd.R_mono HO147.out (fun _ hk => trivial)⟩, ⟨by repeat (first | (with_reducible first | exact HI0.out | apply IsS96.alloc | apply IsS96.drewN | apply IsS96.drew | apply IsS96.set_0 | apply IsS96.set_2) | exact HI0.out)⟩, ⟨by repeat (first | (with_reducible first | exact HK.out | apply KeepBut.set_ | apply keep_drewN | apply keep_drew | apply keep_alloc) | exact HK.out)⟩, ⟨by repeat (first | (with_reducible first | exact HB.out | apply below_alloc | apply pw_below_drewN | apply below_drew1 | refine below_set ?_ (IsS96.ge HI0.out)) | exact HB.out)⟩⟩
              case round =>
                clear H'
                try clear c1
                try clear p1
                try clear q1
                try clear hx1
                try clear c2
                try clear p2
                try clear q2
                try clear hx2
                try clear hf2
                try clear c3
                try clear c3b0
                try clear c3b1
                try clear p3
                try clear q3
                try clear hx3
                try clear hf3
                try clear c4
                try clear c4b0
                try clear c4b1
                try clear c5
                try clear p6
                try clear c8
                try clear c9
                try clear c9b0
                try clear c10
                try clear c10b0
                try clear c11
                try clear c11b0
                try clear q12
                try clear c13
                try clear p13
                try clear q13
                try clear hx13
                try clear c16
                try clear c18
                try clear c19
                try clear c19b0
                try clear p20
                try clear q20
                try clear hx20
                try clear hf20
                try clear c23
                try clear c32
                try clear c32b0
                try clear p33
                try clear q33
                try clear hx33
                try clear hf33
                try clear c36
                try clear c42
                try clear hcz14_0
                try clear hcz14_1
                try clear hcz14_2
                try clear hcz17_0
                try clear hcz17_1
                try clear hcz17_2
                try clear hcz17_3
                try clear hcz17_4
                try clear hcz17_5
                try clear hcz17_6
                try clear hcz17_7
                try clear hcz17_8
                try clear hcz21_0
                try clear hcz21_1
                try clear hcz21_2
                try clear hcz24_0
                try clear hcz24_1
                try clear hcz24_2
                try clear hcz24_3
                try clear hcz24_4
                try clear hcz24_5
                try clear hcz24_6
                try clear hcz24_7
                try clear hcz24_8
                try clear hcz26_0
                try clear hcz26_1
                try clear hcz26_2
                try clear hcz26_3
                try clear hcz26_4
                try clear hcz26_5
                try clear hcz26_6
                try clear hcz26_7
                try clear hcz26_8
                try clear hcz27_0
                try clear hcz27_1
                try clear hcz27_2
                try clear hcz34_0
                try clear hcz34_1
                try clear hcz34_2
                try clear hcz37_0
                try clear hcz37_1
                try clear hcz37_2
                try clear hcz37_3
                try clear hcz37_4
                try clear hcz37_5
                try clear hcz37_6
                try clear hcz37_7
                try clear hcz37_8
                try clear hcz38_0
                try clear hcz38_1
                try clear hcz38_2
                try clear hcz45_0
                try clear hcz45_1
                try clear hcz45_2
                try clear hcz50_0
                try clear hcz50_1
                try clear hcz50_2
                try clear hcz5_0
                try clear hcz5_1
                try clear hcz5_2
                try clear hcz8_0
                try clear hcz8_1
                try clear hcz8_2
                try clear hfz14_0
                try clear hfz14_2
                try clear hfz17_0
                try clear hfz17_1
                try clear hfz17_2
                try clear hfz17_3
                try clear hfz17_4
                try clear hfz17_5
                try clear hfz17_6
                try clear hfz17_7
                try clear hfz17_8
                try clear hfz21_0
                try clear hfz21_2
                try clear hfz24_0
                try clear hfz24_1
                try clear hfz24_2
                try clear hfz24_3
                try clear hfz24_4
                try clear hfz24_5
                try clear hfz24_6
                try clear hfz24_7
                try clear hfz24_8
                try clear hfz26_0
                try clear hfz26_1
                try clear hfz26_2
                try clear hfz26_3
                try clear hfz26_4
                try clear hfz26_5
                try clear hfz26_6
                try clear hfz26_7
                try clear hfz26_8
                try clear hfz27_0
                try clear hfz27_2
                try clear hfz34_0
                try clear hfz34_2
                try clear hfz37_0
                try clear hfz37_1
                try clear hfz37_2
                try clear hfz37_3
                try clear hfz37_4
                try clear hfz37_5
                try clear hfz37_6
                try clear hfz37_7
                try clear hfz37_8
                try clear hfz38_0
                try clear hfz38_2
                try clear hfz45_0
                try clear hfz45_2
                try clear hfz50_0
                try clear hfz50_2
                try clear hfz5_0
                try clear hfz5_2
                try clear hfz8_0
                try clear hfz8_2
                try clear hx137_0
                try clear hx137_1
                try clear hx137_2
                try clear hx137_3
                try clear hx137_4
                try clear hx137_5
                try clear hx137_6
                try clear hx137_7
                try clear hx137_8
                try clear hx20_0
                try clear hx33_0
                try clear p137
                try clear p2
                try clear p20
                try clear p33
                try clear q137
                try clear q20
                try clear q33
                obtain ⟨x8_2, x67_2, rfl, HA, HK2, HO_8, HI0, HK, HB⟩ := hrel
                have hl8_2 := (Kd.R_reads' HO_8.out).1
                rw [hl8_2] at HO_8
                (try simp only [hl8_2])
                cases gk with
                | zero => exact absurd HA.out (by simp [flex_row_parts.l1])
                | succ k2 =>
                  have H := HA.out
                  clear HA
                  simp only [flex_row_parts.l1] at H
                  by_cases c54 : x67_2 < (t145.length : Int)
                  · rw [if_pos c54] at H
                    have c54b0 : decide (x67_2 < (t145.length : Int)) = true := decide_eq_true c54
                    try have c54n_hl8_2 : decide (x67_2 < (x8_2.length : Int)) = true := by rw [← hl8_2]; exact c54b0
                    clear c54
                    by_cases c55 : 0 ≤ x67_2
                    · rw [if_pos c55] at H
                      have c55b0 : decide (0 ≤ x67_2) = true := decide_eq_true c55
                      clear c55
                      by_cases c56 : x67_2 < (x8_2.length : Int)
                      · rw [if_pos c56] at H
                        have c56b0 : decide (x67_2 < (x8_2.length : Int)) = true := decide_eq_true c56
                        clear c56
                        obtain ⟨y149, hy149⟩ : ∃ y_ : List Int, y_ = (x8_2.set (x67_2 : Int).toNat (wrap64 (-(rd x8_2 x67_2)))) := ⟨_, rfl⟩
                        replace H : (flex_row_parts.l1 k2 y149 (t145.length : Int) (wrap64 (x67_2 + 1)) s0_0 s0_1 false) = some (r1, r2, r3) := by first | (rw [hy149]; with_reducible exact H) | (have H2_ := (Option.bind_some _ _).symm.trans H; rw [hy149]; with_reducible exact H2_) | (have H2_ := (Option.bind_some _ _).symm.trans H; with_reducible exact H2_) | with_reducible exact H | (rw [hy149]; exact H) | exact H
                        have Ny149 := Aside0.mk hy149
                        clear hy149
                        have H' := Aside0.mk H
                        clear H
                        have p148 : 0 ≤ (x67_2 : Int) := of_decide_eq_true (by first | (with_reducible assumption) | assumption)
                        have q148 : x67_2 < (x8_2.length : Int) := of_decide_eq_true (by first | (with_reducible assumption) | assumption)
                        obtain ⟨ad148, e148, hx148_0⟩ := Kd.at_int (Kd.R_reads' HO_8.out).2.2 x67_2 p148 q148
                        cases e148
                        replace p148 := eq_true p148
                        replace q148 := eq_true q148
                        have p57 : 0 ≤ (x67_2 : Int) := of_decide_eq_true (by first | (with_reducible assumption) | assumption)
                        have q57 : (x67_2 : Int) < ((x8_2.length : Int) : Int) := of_decide_eq_true (by first | (with_reducible assumption) | assumption)
                        obtain ⟨go57, co57, eo57, gb57, gl57, cl57, HG57⟩ := Kd.R_form HO_8.out (by omega)
                        (first | cases eo57 | (injection eo57 with ea_ en_ ec_; (first | subst ea_ | (injection ea_ with ea_; subst ea_)); subst ec_; clear en_))
                        have GB57 := Aside0.mk gb57
                        have GG57 := Aside0.mk HG57
                        clear gb57 gl57 HG57
                        (first | simp only [add_plain] at hx148_0 | skip)
                        obtain ⟨hx57_0, hf57_0⟩ := Kd.R_celln 0 HO_8.out (x67_2 : Int) p57 q57
                        replace p57 := eq_true p57
                        replace q57 := eq_true q57
                        have HP58 := Kd.R_putg HO_8.out (x67_2 : Int) (wrap64 (-(rd x8_2 x67_2)))
                        go_wp2_with (first | ((with_reducible refine gate_store (t := 3) (p := 77) rfl ?_); refine store_event (t := 3) (p := 77) (v := ?vo_w59) (w1 := (wr.setCell ⟨go57, (x67_2 : Int).toNat, none⟩ (.int .i64 (wrap64 (-(rd x8_2 x67_2)))))) ?hg ?ho ?hn ?hr ?_; (case ho => rfl); (case hg => rfl); (case hn => rfl); (case hr => first | (go_simp; done) | (go_simp; rfl)); intro w59 hw; have hg : wr.grownBy w59 (some go57) := (by rw [hw]; exact HP58.2); have hp_ : Kd.R (Kd.int .i64) 3 w59 w.heap.size (fun _ => True) (.slice (some ⟨go57, 0, none⟩) x8_2.length co53) y149 := (by rw [hw, Ny149.out]; exact HP58.1); clear HP58; have n0_ := Aside0.mk (hp_); have n1_ := Aside0.mk (IsS96.grown (by repeat (first | (with_reducible first | exact HI0.out | apply IsS96.alloc | apply IsS96.drewN | apply IsS96.drew | apply IsS96.set_0 | apply IsS96.set_2) | exact HI0.out)) hg (IsS96.own_ne HI0.out HO_8.out (by decide))); have n2_ := Aside0.mk ((by rw [hw]; exact below_set (HB.out) (Nat.le_trans HL.out GB57.out) : Below w0.heap.size w0 w59)); have n3_ := Aside0.mk (KeepBut.trans (by repeat (first | (with_reducible first | exact HK.out | apply KeepBut.set_ | apply keep_drewN | apply keep_drew | apply keep_alloc) | exact HK.out)) (KeepBut.of_grown hg g) (Kd.R_base2 HO_8.out)); clear HO_8; clear HI0; clear HB; clear HK; have HO_8 := n0_; have HI0 := n1_; have HB := n2_; have HK := n3_; clear n0_ n1_ n2_ n3_; clear hg hw hp_))
                        (try simp only [← hl8_2])
                        go_roundg k2
                        case measure => have := HK1.out; have := HK2.out; omega
                        case rel => exact ⟨(y149), (wrap64 (x67_2 + 1)), (by first | rfl | (simp; done) | (simp [*]; done)), H', ⟨by have := HK1.out; have := HK2.out; omega⟩, ⟨by (try simp only [hl8_2]); (with_reducible repeat (first | apply Kd.R_alloc | apply Kd.R_drewN | apply Kd.R_drew)); exact HO_8.out⟩, ⟨by repeat (first | (with_reducible first | exact HI0.out | apply IsS96.alloc | apply IsS96.drewN | apply IsS96.drew | apply IsS96.set_0 | apply IsS96.set_2) | exact HI0.out)⟩, ⟨by repeat (first | (with_reducible first | exact HK.out | apply KeepBut.set_ | apply keep_drewN | apply keep_drew | apply keep_alloc) | exact HK.out)⟩, ⟨by repeat (first | (with_reducible first | exact HB.out | apply below_alloc | apply pw_below_drewN | apply below_drew1 | refine below_set ?_ (IsS96.ge HI0.out)) | exact HB.out)⟩⟩
                      · rw [if_neg c56] at H
                        exact absurd H (by simp)
                    · rw [if_neg c55] at H
                      exact absurd H (by simp)
                  · rw [if_neg c54] at H
                    have c54b0 : decide (x67_2 < (t145.length : Int)) = false := decide_eq_false c54
                    try have c54n_hl8_2 : decide (x67_2 < (x8_2.length : Int)) = false := by rw [← hl8_2]; exact c54b0
                    clear c54
                    simp only [Option.some.injEq, Prod.mk.injEq] at H
                    obtain ⟨rfl, rfl, rfl⟩ := H
                    go_wp2
                    go_ret
                    exact ⟨_, by first | rfl | (simp [errW_none, errW_some] <;> rfl) | (simp only [← hji48]; first | rfl | (simp [errW_none, errW_some] <;> rfl)) | (simp [*, errW_none, errW_some] <;> rfl), by (with_reducible repeat (first | apply Kd.R_alloc | apply Kd.R_drewN | apply Kd.R_drew)); exact HO_8.out, by repeat (first | (with_reducible first | exact HI0.out | apply IsS96.alloc | apply IsS96.drewN | apply IsS96.drew | apply IsS96.set_0 | apply IsS96.set_2) | exact HI0.out), by repeat (first | (with_reducible first | exact HB.out | apply below_alloc | apply pw_below_drewN | apply below_drew1 | refine below_set ?_ (IsS96.ge HI0.out)) | exact HB.out), by repeat (first | (with_reducible first | exact HK.out | apply KeepBut.set_ | apply keep_drewN | apply keep_drew | apply keep_alloc) | exact HK.out)⟩
    · rw [if_neg c4] at H
      exact absurd H (by simp)
  · rw [if_neg c3] at H
    exact absurd H (by simp)

-- NOT PRINTED: function 71 (flex_row_turn)

/-! ### flex_Mains_fn1: function 66 -/
def flex_Mains_fn1.f (a0_0 : Int) (a0_1 : Int) (a0_2 : Int) (a0_3 : Int) (a0_4 : Int) (a0_5 : Int) (a0_6 : Int) (a0_7 : Bool) (a0_8 : Int) : Option (Int) := some a0_6
set_option maxHeartbeats 8000000 in
set_option maxRecDepth 100000 in
theorem flex_Mains_fn1.calls (a0_0 : Int) (a0_1 : Int) (a0_2 : Int) (a0_3 : Int) (a0_4 : Int) (a0_5 : Int) (a0_6 : Int) (a0_7 : Bool) (a0_8 : Int) (r : Int) (w : World) (h : flex_Mains_fn1.f a0_0 a0_1 a0_2 a0_3 a0_4 a0_5 a0_6 a0_7 a0_8 = some r) :
    Calls Try.prog 66 #[.agg #[.int .i64 a0_0, .int .i64 a0_1, .int .i64 a0_2, .int .i64 a0_3, .int .i64 a0_4, .int .i64 a0_5, .int .i64 a0_6, .bool a0_7, .int .i64 a0_8]] w fun e w' => e = .returned (.int .i64 r) ∧ Below w.heap.size w w' := by
  have hu99 := Try.underlying99
  have HB := Aside0.mk (Below.refl w.heap.size w)
  have H : (some a0_6) = some r := h
  clear h
  obtain rfl := Option.some.inj H
  go_enter Try.func66, Try.ntmps66
  go_wp2_with (first | ((with_reducible refine gate_dst (N := 1) rfl ?_); refine box_event ?hg (N := 1) ?hd (cs := #[.int .i64 a0_0, .int .i64 a0_1, .int .i64 a0_2, .int .i64 a0_3, .int .i64 a0_4, .int .i64 a0_5, .int .i64 a0_6, .bool a0_7, .int .i64 a0_8]) (t := 99) ?hr ?_; (case hd => rfl); (case hg => rfl); (case hr => first | (go_simp; done) | (go_simp; rfl)); intro gb172 hg w2 hbox hb; have n0_ := Aside0.mk (below_step (by repeat (first | (with_reducible first | exact HB.out | apply below_alloc | apply pw_below_drewN | apply below_drew1) | exact HB.out)) hb); have n1_ := Aside0.mk (hbox); have n2_ := Aside0.mk ((by rw [hg]; exact (below_size (by repeat (first | (with_reducible first | exact HB.out | apply below_alloc | apply pw_below_drewN | apply below_drew1) | exact HB.out))) : w.heap.size ≤ gb172)); have n3_ := Aside0.mk ((by rw [hg]; exact (below_size (by repeat (first | (with_reducible first | exact HB.out | apply below_alloc | apply pw_below_drewN | apply below_drew1) | exact HB.out))) : w.heap.size ≤ gb172)); clear HB; have HB := n0_; have BK172 := n1_; have GW172 := n2_; have GE172 := n3_; clear n0_ n1_ n2_ n3_; clear hb hbox hg; have hcz3_0 : w2.cell? ⟨gb172, 0, none⟩ = some (.int .i64 a0_0) := (blk_cell BK172.out 0).trans rfl; have hcz3_1 : w2.cell? ⟨gb172, 1, none⟩ = some (.int .i64 a0_1) := (blk_cell BK172.out 1).trans rfl; have hcz3_2 : w2.cell? ⟨gb172, 2, none⟩ = some (.int .i64 a0_2) := (blk_cell BK172.out 2).trans rfl; have hcz3_3 : w2.cell? ⟨gb172, 3, none⟩ = some (.int .i64 a0_3) := (blk_cell BK172.out 3).trans rfl; have hcz3_4 : w2.cell? ⟨gb172, 4, none⟩ = some (.int .i64 a0_4) := (blk_cell BK172.out 4).trans rfl; have hcz3_5 : w2.cell? ⟨gb172, 5, none⟩ = some (.int .i64 a0_5) := (blk_cell BK172.out 5).trans rfl; have hcz3_6 : w2.cell? ⟨gb172, 6, none⟩ = some (.int .i64 a0_6) := (blk_cell BK172.out 6).trans rfl; have hcz3_7 : w2.cell? ⟨gb172, 7, none⟩ = some (.bool a0_7) := (blk_cell BK172.out 7).trans rfl; have hcz3_8 : w2.cell? ⟨gb172, 8, none⟩ = some (.int .i64 a0_8) := (blk_cell BK172.out 8).trans rfl; have hfz3_0 := blk_frozen BK172.out 0; have hfz3_1 := blk_frozen BK172.out 1; have hfz3_2 := blk_frozen BK172.out 2; have hfz3_3 := blk_frozen BK172.out 3; have hfz3_4 := blk_frozen BK172.out 4; have hfz3_5 := blk_frozen BK172.out 5; have hfz3_6 := blk_frozen BK172.out 6; have hfz3_7 := blk_frozen BK172.out 7; have hfz3_8 := blk_frozen BK172.out 8))
  go_ret
  exact ⟨by first | rfl | (simp [errW_none, errW_some] <;> rfl) | (simp [*, errW_none, errW_some] <;> rfl), by repeat (first | (with_reducible first | exact HB.out | apply below_alloc | apply pw_below_drewN | apply below_drew1 | refine below_set ?_ GE172.out) | exact HB.out)⟩

/-! ### flex_freeLong: function 153 -/
def flex_freeLong.l0 : Nat → Int → List (S99) → Int → Int → Int → List (S99) → Bool → Option (Int × Int × Bool)
  | 0, _, _, _, _, _, _, _ => none
  | k + 1, x5, x15, x16, x17, x1000, x1001, x1002 => if x17 < x16 then (if 0 ≤ x17 then (if x17 < (x15.length : Int) then ((flex_Mains_fn1.f ((rd_T99 x15 x17).f0.f0) ((rd_T99 x15 x17).f0.f1) ((rd_T99 x15 x17).f0.f2) ((rd_T99 x15 x17).f0.f3) ((rd_T99 x15 x17).f0.f4) ((rd_T99 x15 x17).f0.f5) ((rd_T99 x15 x17).f1) ((rd_T99 x15 x17).f2) ((rd_T99 x15 x17).f3)).bind fun t175 => (flex_freeLong.l0 k (wrap64 (x5 - (wrap64 (t175 + ((rd_T99 x15 x17).f0.f5))))) x15 x16 (wrap64 (x17 + 1)) x1000 x1001 x1002)) else (none)) else (none)) else (some (x5, x1000, x1002))
def flex_freeLong.f (k : Nat) (s0_0 : Int) (s0_1 : List (S99)) (s0_2 : Bool) : Option (Int × Int × Bool) := flex_freeLong.l0 k s0_0 s0_1 (s0_1.length : Int) 0 s0_0 s0_1 s0_2
theorem flex_freeLong.mono_l : ∀ k, (∀ y0 y1 y2 y3 y4 y5 y6, LeO (flex_freeLong.l0 k y0 y1 y2 y3 y4 y5 y6) (flex_freeLong.l0 (k + 1) y0 y1 y2 y3 y4 y5 y6))
  | 0 => fun _ _ _ _ _ _ _ r h => by simp [flex_freeLong.l0] at h
  | k + 1 => by
    have ih0 := flex_freeLong.mono_l k
    · intro y0 y1 y2 y3 y4 y5 y6
      unfold flex_freeLong.l0
      repeat' first
      | (with_reducible exact ih0 _ _ _ _ _ _ _)
      | (with_reducible exact LeO.refl _)
      | (with_reducible exact LeO.none _)
      | (with_reducible refine LeO.ite ?_ ?_)
      | (with_reducible refine LeO.bind ?_ (fun _ => ?_))
      | exact ih0 _ _ _ _ _ _ _
      | exact LeO.none _
      | refine LeO.ite ?_ ?_
      | refine LeO.bind ?_ (fun _ => ?_)
theorem flex_freeLong.mono : ∀ a0 a1 a2 k, LeO (flex_freeLong.f k a0 a1 a2) (flex_freeLong.f (k + 1) a0 a1 a2) := by
  intro a0 a1 a2 k
  have ih0 := flex_freeLong.mono_l k
  unfold flex_freeLong.f
  repeat' first
      | (with_reducible exact ih0 _ _ _ _ _ _ _)
      | (with_reducible exact LeO.refl _)
      | (with_reducible exact LeO.none _)
      | (with_reducible refine LeO.ite ?_ ?_)
      | (with_reducible refine LeO.bind ?_ (fun _ => ?_))
      | exact ih0 _ _ _ _ _ _ _
      | exact LeO.none _
      | refine LeO.ite ?_ ?_
      | refine LeO.bind ?_ (fun _ => ?_)
def flex_freeLong.T5 : Bool × List (List Nat × List Nat) := (true, [([], []), ([], []), ([], []), ([1, 2], [1, 2]), ([], []), ([4], [4]), ([5], [5]), ([3, 6], [3, 6]), ([0, 7], [0, 7]), ([8, 3, 0, 1, 2, 3, 4, 5, 6, 7, 8], [0, 8])])
def flex_freeLong.B5 : List Nat := [0, 0, 0, 6, 0, 16, 48, 126, 255, 511]
theorem flex_freeLong.tab5 : rtab .any (opsOf Try.f65 5) = flex_freeLong.T5 := by kernel_rfl
theorem flex_freeLong.bits5 : waitsOk flex_freeLong.T5.2 flex_freeLong.B5 = true := by kernel_rfl
set_option maxHeartbeats 8000000 in
set_option maxRecDepth 100000 in
theorem flex_freeLong.calls (k : Nat) (g : Nat) (s0_0 : Int) (s0_1 : List (S99)) (s0_2 : Bool) (r1 : Int) (r2 : Int) (r3 : Bool) (w0 w : World) (hI : IsS96 hA_ hc_ w0 w g s0_0 s0_1 s0_2) (hB : Below w0.heap.size w0 w) (h : flex_freeLong.f k s0_0 s0_1 s0_2 = some (r1, r2, r3)) :
    Calls Try.prog 65 #[.pointer (some ⟨g, 0, none⟩), .func (.func 66) #[] #[]] w fun e w' => e = .returned (.int .i64 r1) ∧ IsS96 hA_ hc_ w0 w' g r2 s0_1 r3 ∧ Below w0.heap.size w0 w' ∧ KeepBut w w' g none := by
  have hu99 := Try.underlying99
  have HI0 := Aside0.mk hI
  have HK := Aside0.mk (KeepBut.refl w g none)
  have HL := Aside0.mk hB.size
  clear hI
  have HW0 := Aside0.mk hB.size
  have HB := Aside0.mk hB
  clear hB
  have H : (flex_freeLong.l0 k s0_0 s0_1 (s0_1.length : Int) 0 s0_0 s0_1 s0_2) = some (r1, r2, r3) := h
  clear h
  have H' := Aside0.mk H
  clear H
  obtain ⟨ASz2_1, cSz2_1, HGz2, hgz2, HSz2_1⟩ := HI0.out
  have hcz2_0 := cellS96_0 HGz2
  have hcz2_1 := cellS96_1 HGz2
  have hcz2_2 := cellS96_2 HGz2
  have hfz2_0 := blk_frozen HGz2 0
  have hfz2_2 := blk_frozen HGz2 2
  clear HGz2 hgz2
  go_enter Try.func65, Try.ntmps65
  go_wp2
  go_loopg [5, 17] k (fun kq v5 v17 w' => ∃ (x5_1 : Int) (x17_1 : Int), v5 = .int .i64 x5_1 ∧ v17 = .int .i64 x17_1 ∧ Aside0 (flex_freeLong.l0 kq x5_1 s0_1 (s0_1.length : Int) x17_1 s0_0 s0_1 s0_2 = some (r1, r2, r3)) ∧ Aside0 (kq ≤ k) ∧ Aside0 (IsS96 hA_ hc_ w0 w' g s0_0 s0_1 s0_2) ∧ Aside0 (KeepBut w w' g none) ∧ Aside0 (Below w0.heap.size w0 w'))
  case atStart => exact ⟨(s0_0), (0), (by first | rfl | (simp; done) | (simp [*]; done)), (by first | rfl | (simp; done) | (simp [*]; done)), H', ⟨Nat.le_refl _⟩, ⟨by repeat (first | (with_reducible first | exact HI0.out | apply IsS96.alloc | apply IsS96.drewN | apply IsS96.drew | apply IsS96.set_0 | apply IsS96.set_2) | exact HI0.out)⟩, ⟨by repeat (first | (with_reducible first | exact HK.out | apply KeepBut.set_ | apply keep_drewN | apply keep_drew | apply keep_alloc) | exact HK.out)⟩, ⟨by repeat (first | (with_reducible first | exact HB.out | apply below_alloc | apply pw_below_drewN | apply below_drew1 | refine below_set ?_ (IsS96.ge HI0.out)) | exact HB.out)⟩⟩
  case round =>
    clear H'
    try clear c1
    try clear p2
    try clear hcz2_0
    try clear hcz2_1
    try clear hcz2_2
    try clear hfz2_0
    try clear hfz2_2
    obtain ⟨x5_1, x17_1, rfl, rfl, HA, HK1, HI0, HK, HB⟩ := hrel
    cases gk with
    | zero => exact absurd HA.out (by simp [flex_freeLong.l0])
    | succ k1 =>
      have H := HA.out
      clear HA
      simp only [flex_freeLong.l0] at H
      by_cases c3 : x17_1 < (s0_1.length : Int)
      · rw [if_pos c3] at H
        have c3b0 : decide (x17_1 < (s0_1.length : Int)) = true := decide_eq_true c3
        clear c3
        by_cases c4 : 0 ≤ x17_1
        · rw [if_pos c4] at H
          have c4b0 : decide (0 ≤ x17_1) = true := decide_eq_true c4
          clear c4
          by_cases c5 : x17_1 < (s0_1.length : Int)
          · rw [if_pos c5] at H
            have c5b0 : decide (x17_1 < (s0_1.length : Int)) = true := decide_eq_true c5
            clear c5
            replace H := Option.bind_eq_some_iff.mp H
            obtain ⟨t175, A60, H⟩ := H
            replace H : (flex_freeLong.l0 k1 (wrap64 (x5_1 - (wrap64 (t175 + ((rd_T99 s0_1 x17_1).f0.f5))))) s0_1 (s0_1.length : Int) (wrap64 (x17_1 + 1)) s0_0 s0_1 s0_2) = some (r1, r2, r3) := H
            have A6 := Aside0.mk A60
            clear A60
            have H' := Aside0.mk H
            clear H
            obtain ⟨ASz7_1, cSz7_1, HGz7, hgz7, HSz7_1⟩ := HI0.out
            have hcz7_0 := cellS96_0 HGz7
            have hcz7_1 := cellS96_1 HGz7
            have hcz7_2 := cellS96_2 HGz7
            have hfz7_0 := blk_frozen HGz7 0
            have hfz7_2 := blk_frozen HGz7 2
            clear HGz7 hgz7
            have p173 : 0 ≤ (x17_1 : Int) := of_decide_eq_true (by first | (with_reducible assumption) | assumption)
            have q173 : x17_1 < (s0_1.length : Int) := of_decide_eq_true (by first | (with_reducible assumption) | assumption)
            obtain ⟨ad173, e173, hx173_0, hx173_1, hx173_2, hx173_3, hx173_4, hx173_5, hx173_6, hx173_7, hx173_8⟩ := at_T99 HSz2_1 x17_1 p173 q173
            cases e173
            replace hx173_0 := pw_cell_below HB.out hx173_0
            replace hx173_1 := pw_cell_below HB.out hx173_1
            replace hx173_2 := pw_cell_below HB.out hx173_2
            replace hx173_3 := pw_cell_below HB.out hx173_3
            replace hx173_4 := pw_cell_below HB.out hx173_4
            replace hx173_5 := pw_cell_below HB.out hx173_5
            replace hx173_6 := pw_cell_below HB.out hx173_6
            replace hx173_7 := pw_cell_below HB.out hx173_7
            replace hx173_8 := pw_cell_below HB.out hx173_8
            replace p173 := eq_true p173
            replace q173 := eq_true q173
            try go_wp2_with (first | ((with_reducible refine gate_dst (N := 7) rfl ?_); refine box_event ?hg (N := 7) ?hd (cs := #[.int .i64 0, .int .i64 0, .int .i64 0, .int .i64 0, .int .i64 0, .int .i64 0, .int .i64 0, .bool false, .int .i64 0]) (t := 99) ?hr ?_; (case hd => rfl); (case hg => rfl); (case hr => first | (go_simp; done) | (go_simp; rfl)); intro gb174 hg w8 hbox hb; have n0_ := Aside0.mk (IsS96.below (by repeat (first | (with_reducible first | exact HI0.out | apply IsS96.alloc | apply IsS96.drewN | apply IsS96.drew | apply IsS96.set_0 | apply IsS96.set_2) | exact HI0.out)) hb); have n1_ := Aside0.mk (KeepBut.trans (by repeat (first | (with_reducible first | exact HK.out | apply KeepBut.set_ | apply keep_drewN | apply keep_drew | apply keep_alloc) | exact HK.out)) (KeepBut.of_below hb g none) (.inl rfl)); have n2_ := Aside0.mk (below_step (by repeat (first | (with_reducible first | exact HB.out | apply below_alloc | apply pw_below_drewN | apply below_drew1 | refine below_set ?_ (IsS96.ge HI0.out)) | exact HB.out)) hb); have n3_ := Aside0.mk (hbox); have n4_ := Aside0.mk ((by rw [hg]; exact (keep_size (w := w) (g := g) (row := none) (by repeat (first | (with_reducible first | exact HK.out | apply KeepBut.set_ | apply keep_drewN | apply keep_drew | apply keep_alloc) | exact HK.out))) : w.heap.size ≤ gb174)); have n5_ := Aside0.mk ((Nat.le_trans HW0.out (by rw [hg]; exact (keep_size (w := w) (g := g) (row := none) (by repeat (first | (with_reducible first | exact HK.out | apply KeepBut.set_ | apply keep_drewN | apply keep_drew | apply keep_alloc) | exact HK.out))) : w.heap.size ≤ gb174) : w0.heap.size ≤ gb174)); have n6_ := Aside0.mk ((by rw [hg]; exact Nat.ne_of_lt (IsS96.lt (show IsS96 hA_ hc_ w0 _ g s0_0 s0_1 s0_2 from by repeat (first | (with_reducible first | exact HI0.out | apply IsS96.alloc | apply IsS96.drewN | apply IsS96.drew | apply IsS96.set_0 | apply IsS96.set_2) | exact HI0.out))) : g ≠ gb174)); have n7_ := Aside0.mk ((by rw [hg]; exact Nat.ne_of_gt (IsS96.lt (show IsS96 hA_ hc_ w0 _ g s0_0 s0_1 s0_2 from by repeat (first | (with_reducible first | exact HI0.out | apply IsS96.alloc | apply IsS96.drewN | apply IsS96.drew | apply IsS96.set_0 | apply IsS96.set_2) | exact HI0.out))) : gb174 ≠ g)); clear HI0; clear HK; clear HB; have HI0 := n0_; have HK := n1_; have HB := n2_; have BK174 := n3_; have GW174 := n4_; have GE174 := n5_; have NB0_174 := n6_; have NB174_0 := n7_; clear n0_ n1_ n2_ n3_ n4_ n5_ n6_ n7_; clear hb hbox hg; have hnb9 := NB174_0.out; have hnc9 := NB0_174.out; have hcz10_0 : w8.cell? ⟨gb174, 0, none⟩ = some (.int .i64 0) := (blk_cell BK174.out 0).trans rfl; have hcz10_1 : w8.cell? ⟨gb174, 1, none⟩ = some (.int .i64 0) := (blk_cell BK174.out 1).trans rfl; have hcz10_2 : w8.cell? ⟨gb174, 2, none⟩ = some (.int .i64 0) := (blk_cell BK174.out 2).trans rfl; have hcz10_3 : w8.cell? ⟨gb174, 3, none⟩ = some (.int .i64 0) := (blk_cell BK174.out 3).trans rfl; have hcz10_4 : w8.cell? ⟨gb174, 4, none⟩ = some (.int .i64 0) := (blk_cell BK174.out 4).trans rfl; have hcz10_5 : w8.cell? ⟨gb174, 5, none⟩ = some (.int .i64 0) := (blk_cell BK174.out 5).trans rfl; have hcz10_6 : w8.cell? ⟨gb174, 6, none⟩ = some (.int .i64 0) := (blk_cell BK174.out 6).trans rfl; have hcz10_7 : w8.cell? ⟨gb174, 7, none⟩ = some (.bool false) := (blk_cell BK174.out 7).trans rfl; have hcz10_8 : w8.cell? ⟨gb174, 8, none⟩ = some (.int .i64 0) := (blk_cell BK174.out 8).trans rfl; have hfz10_0 := blk_frozen BK174.out 0; have hfz10_1 := blk_frozen BK174.out 1; have hfz10_2 := blk_frozen BK174.out 2; have hfz10_3 := blk_frozen BK174.out 3; have hfz10_4 := blk_frozen BK174.out 4; have hfz10_5 := blk_frozen BK174.out 5; have hfz10_6 := blk_frozen BK174.out 6; have hfz10_7 := blk_frozen BK174.out 7; have hfz10_8 := blk_frozen BK174.out 8))
            have n0_ : Aside0 ((((((((((w8.setCell ⟨gb174, 0, none⟩ (.int .i64 ((rd_T99 s0_1 x17_1).f0.f0))).setCell ⟨gb174, 1, none⟩ (.int .i64 ((rd_T99 s0_1 x17_1).f0.f1))).setCell ⟨gb174, 2, none⟩ (.int .i64 ((rd_T99 s0_1 x17_1).f0.f2))).setCell ⟨gb174, 3, none⟩ (.int .i64 ((rd_T99 s0_1 x17_1).f0.f3))).setCell ⟨gb174, 4, none⟩ (.int .i64 ((rd_T99 s0_1 x17_1).f0.f4))).setCell ⟨gb174, 5, none⟩ (.int .i64 ((rd_T99 s0_1 x17_1).f0.f5))).setCell ⟨gb174, 6, none⟩ (.int .i64 ((rd_T99 s0_1 x17_1).f1))).setCell ⟨gb174, 7, none⟩ (.bool ((rd_T99 s0_1 x17_1).f2))).setCell ⟨gb174, 8, none⟩ (.int .i64 ((rd_T99 s0_1 x17_1).f3))).heap[gb174]? = some (.cells #[.int .i64 ((rd_T99 s0_1 x17_1).f0.f0), .int .i64 ((rd_T99 s0_1 x17_1).f0.f1), .int .i64 ((rd_T99 s0_1 x17_1).f0.f2), .int .i64 ((rd_T99 s0_1 x17_1).f0.f3), .int .i64 ((rd_T99 s0_1 x17_1).f0.f4), .int .i64 ((rd_T99 s0_1 x17_1).f0.f5), .int .i64 ((rd_T99 s0_1 x17_1).f1), .bool ((rd_T99 s0_1 x17_1).f2), .int .i64 ((rd_T99 s0_1 x17_1).f3)] 99 (0, 0))) := ⟨by (with_reducible repeat (first | refine blk_drewN ?_ _ | refine blk_drew ?_ | refine blk_alloc ?_ _)); refine blk_put (cs := #[.int .i64 ((rd_T99 s0_1 x17_1).f0.f0), .int .i64 ((rd_T99 s0_1 x17_1).f0.f1), .int .i64 ((rd_T99 s0_1 x17_1).f0.f2), .int .i64 ((rd_T99 s0_1 x17_1).f0.f3), .int .i64 ((rd_T99 s0_1 x17_1).f0.f4), .int .i64 ((rd_T99 s0_1 x17_1).f0.f5), .int .i64 ((rd_T99 s0_1 x17_1).f1), .bool ((rd_T99 s0_1 x17_1).f2), .int .i64 0]) ?_ 8 _ rfl; (with_reducible repeat (first | refine blk_drewN ?_ _ | refine blk_drew ?_ | refine blk_alloc ?_ _)); refine blk_put (cs := #[.int .i64 ((rd_T99 s0_1 x17_1).f0.f0), .int .i64 ((rd_T99 s0_1 x17_1).f0.f1), .int .i64 ((rd_T99 s0_1 x17_1).f0.f2), .int .i64 ((rd_T99 s0_1 x17_1).f0.f3), .int .i64 ((rd_T99 s0_1 x17_1).f0.f4), .int .i64 ((rd_T99 s0_1 x17_1).f0.f5), .int .i64 ((rd_T99 s0_1 x17_1).f1), .bool false, .int .i64 0]) ?_ 7 _ rfl; (with_reducible repeat (first | refine blk_drewN ?_ _ | refine blk_drew ?_ | refine blk_alloc ?_ _)); refine blk_put (cs := #[.int .i64 ((rd_T99 s0_1 x17_1).f0.f0), .int .i64 ((rd_T99 s0_1 x17_1).f0.f1), .int .i64 ((rd_T99 s0_1 x17_1).f0.f2), .int .i64 ((rd_T99 s0_1 x17_1).f0.f3), .int .i64 ((rd_T99 s0_1 x17_1).f0.f4), .int .i64 ((rd_T99 s0_1 x17_1).f0.f5), .int .i64 0, .bool false, .int .i64 0]) ?_ 6 _ rfl; (with_reducible repeat (first | refine blk_drewN ?_ _ | refine blk_drew ?_ | refine blk_alloc ?_ _)); refine blk_put (cs := #[.int .i64 ((rd_T99 s0_1 x17_1).f0.f0), .int .i64 ((rd_T99 s0_1 x17_1).f0.f1), .int .i64 ((rd_T99 s0_1 x17_1).f0.f2), .int .i64 ((rd_T99 s0_1 x17_1).f0.f3), .int .i64 ((rd_T99 s0_1 x17_1).f0.f4), .int .i64 0, .int .i64 0, .bool false, .int .i64 0]) ?_ 5 _ rfl; (with_reducible repeat (first | refine blk_drewN ?_ _ | refine blk_drew ?_ | refine blk_alloc ?_ _)); refine blk_put (cs := #[.int .i64 ((rd_T99 s0_1 x17_1).f0.f0), .int .i64 ((rd_T99 s0_1 x17_1).f0.f1), .int .i64 ((rd_T99 s0_1 x17_1).f0.f2), .int .i64 ((rd_T99 s0_1 x17_1).f0.f3), .int .i64 0, .int .i64 0, .int .i64 0, .bool false, .int .i64 0]) ?_ 4 _ rfl; (with_reducible repeat (first | refine blk_drewN ?_ _ | refine blk_drew ?_ | refine blk_alloc ?_ _)); refine blk_put (cs := #[.int .i64 ((rd_T99 s0_1 x17_1).f0.f0), .int .i64 ((rd_T99 s0_1 x17_1).f0.f1), .int .i64 ((rd_T99 s0_1 x17_1).f0.f2), .int .i64 0, .int .i64 0, .int .i64 0, .int .i64 0, .bool false, .int .i64 0]) ?_ 3 _ rfl; (with_reducible repeat (first | refine blk_drewN ?_ _ | refine blk_drew ?_ | refine blk_alloc ?_ _)); refine blk_put (cs := #[.int .i64 ((rd_T99 s0_1 x17_1).f0.f0), .int .i64 ((rd_T99 s0_1 x17_1).f0.f1), .int .i64 0, .int .i64 0, .int .i64 0, .int .i64 0, .int .i64 0, .bool false, .int .i64 0]) ?_ 2 _ rfl; (with_reducible repeat (first | refine blk_drewN ?_ _ | refine blk_drew ?_ | refine blk_alloc ?_ _)); refine blk_put (cs := #[.int .i64 ((rd_T99 s0_1 x17_1).f0.f0), .int .i64 0, .int .i64 0, .int .i64 0, .int .i64 0, .int .i64 0, .int .i64 0, .bool false, .int .i64 0]) ?_ 1 _ rfl; (with_reducible repeat (first | refine blk_drewN ?_ _ | refine blk_drew ?_ | refine blk_alloc ?_ _)); refine blk_put (cs := #[.int .i64 0, .int .i64 0, .int .i64 0, .int .i64 0, .int .i64 0, .int .i64 0, .int .i64 0, .bool false, .int .i64 0]) ?_ 0 _ rfl; (with_reducible repeat (first | refine blk_drewN ?_ _ | refine blk_drew ?_ | refine blk_alloc ?_ _)); exact BK174.out⟩
            have n1_ : Aside0 (IsS96 hA_ hc_ w0 (((((((((w8.setCell ⟨gb174, 0, none⟩ (.int .i64 ((rd_T99 s0_1 x17_1).f0.f0))).setCell ⟨gb174, 1, none⟩ (.int .i64 ((rd_T99 s0_1 x17_1).f0.f1))).setCell ⟨gb174, 2, none⟩ (.int .i64 ((rd_T99 s0_1 x17_1).f0.f2))).setCell ⟨gb174, 3, none⟩ (.int .i64 ((rd_T99 s0_1 x17_1).f0.f3))).setCell ⟨gb174, 4, none⟩ (.int .i64 ((rd_T99 s0_1 x17_1).f0.f4))).setCell ⟨gb174, 5, none⟩ (.int .i64 ((rd_T99 s0_1 x17_1).f0.f5))).setCell ⟨gb174, 6, none⟩ (.int .i64 ((rd_T99 s0_1 x17_1).f1))).setCell ⟨gb174, 7, none⟩ (.bool ((rd_T99 s0_1 x17_1).f2))).setCell ⟨gb174, 8, none⟩ (.int .i64 ((rd_T99 s0_1 x17_1).f3))) g s0_0 s0_1 s0_2) := ⟨by repeat (first | (with_reducible first | exact HI0.out | apply IsS96.alloc | apply IsS96.drewN | apply IsS96.drew | apply IsS96.set_0 | apply IsS96.set_2 | refine IsS96.far ?_ NB0_174.out _) | exact HI0.out)⟩
            have n2_ : Aside0 (KeepBut w (((((((((w8.setCell ⟨gb174, 0, none⟩ (.int .i64 ((rd_T99 s0_1 x17_1).f0.f0))).setCell ⟨gb174, 1, none⟩ (.int .i64 ((rd_T99 s0_1 x17_1).f0.f1))).setCell ⟨gb174, 2, none⟩ (.int .i64 ((rd_T99 s0_1 x17_1).f0.f2))).setCell ⟨gb174, 3, none⟩ (.int .i64 ((rd_T99 s0_1 x17_1).f0.f3))).setCell ⟨gb174, 4, none⟩ (.int .i64 ((rd_T99 s0_1 x17_1).f0.f4))).setCell ⟨gb174, 5, none⟩ (.int .i64 ((rd_T99 s0_1 x17_1).f0.f5))).setCell ⟨gb174, 6, none⟩ (.int .i64 ((rd_T99 s0_1 x17_1).f1))).setCell ⟨gb174, 7, none⟩ (.bool ((rd_T99 s0_1 x17_1).f2))).setCell ⟨gb174, 8, none⟩ (.int .i64 ((rd_T99 s0_1 x17_1).f3))) g none) := ⟨by repeat (first | (with_reducible first | exact HK.out | apply KeepBut.set_ | apply keep_drewN | apply keep_drew | apply keep_alloc | refine keep_far ?_ GW174.out _) | exact HK.out)⟩
            have n3_ : Aside0 (Below w0.heap.size w0 (((((((((w8.setCell ⟨gb174, 0, none⟩ (.int .i64 ((rd_T99 s0_1 x17_1).f0.f0))).setCell ⟨gb174, 1, none⟩ (.int .i64 ((rd_T99 s0_1 x17_1).f0.f1))).setCell ⟨gb174, 2, none⟩ (.int .i64 ((rd_T99 s0_1 x17_1).f0.f2))).setCell ⟨gb174, 3, none⟩ (.int .i64 ((rd_T99 s0_1 x17_1).f0.f3))).setCell ⟨gb174, 4, none⟩ (.int .i64 ((rd_T99 s0_1 x17_1).f0.f4))).setCell ⟨gb174, 5, none⟩ (.int .i64 ((rd_T99 s0_1 x17_1).f0.f5))).setCell ⟨gb174, 6, none⟩ (.int .i64 ((rd_T99 s0_1 x17_1).f1))).setCell ⟨gb174, 7, none⟩ (.bool ((rd_T99 s0_1 x17_1).f2))).setCell ⟨gb174, 8, none⟩ (.int .i64 ((rd_T99 s0_1 x17_1).f3)))) := ⟨by repeat (first | (with_reducible first | exact HB.out | apply below_alloc | apply pw_below_drewN | apply below_drew1 | refine below_set ?_ (IsS96.ge HI0.out) | refine below_set ?_ GE174.out) | exact HB.out)⟩
            (try clear BK174)
            (try clear HI0)
            (try clear HK)
            (try clear HB)
            generalize (((((((((w8.setCell ⟨gb174, 0, none⟩ (.int .i64 ((rd_T99 s0_1 x17_1).f0.f0))).setCell ⟨gb174, 1, none⟩ (.int .i64 ((rd_T99 s0_1 x17_1).f0.f1))).setCell ⟨gb174, 2, none⟩ (.int .i64 ((rd_T99 s0_1 x17_1).f0.f2))).setCell ⟨gb174, 3, none⟩ (.int .i64 ((rd_T99 s0_1 x17_1).f0.f3))).setCell ⟨gb174, 4, none⟩ (.int .i64 ((rd_T99 s0_1 x17_1).f0.f4))).setCell ⟨gb174, 5, none⟩ (.int .i64 ((rd_T99 s0_1 x17_1).f0.f5))).setCell ⟨gb174, 6, none⟩ (.int .i64 ((rd_T99 s0_1 x17_1).f1))).setCell ⟨gb174, 7, none⟩ (.bool ((rd_T99 s0_1 x17_1).f2))).setCell ⟨gb174, 8, none⟩ (.int .i64 ((rd_T99 s0_1 x17_1).f3))) = w11 at n0_ n1_ n2_ n3_ ⊢
            have BK174 := n0_
            have HI0 := n1_
            have HK := n2_
            have HB := n3_
            clear n0_ n1_ n2_ n3_
            have n0_ := Aside0.mk (blk_drew BK174.out)
            have n1_ := Aside0.mk (IsS96.drew HI0.out)
            have n2_ := Aside0.mk (keep_drew HK.out)
            have n3_ := Aside0.mk (below_drew1 HB.out)
            clear BK174
            clear HI0
            clear HK
            clear HB
            have BK174 := n0_
            have HI0 := n1_
            have HK := n2_
            have HB := n3_
            clear n0_ n1_ n2_ n3_
            refine start_ (n := 10) (S := fun w' => w'.cell? ⟨gb174, 0, none⟩ = some (.int .i64 ((rd_T99 s0_1 x17_1).f0.f0)) ∧ w'.cell? ⟨gb174, 1, none⟩ = some (.int .i64 ((rd_T99 s0_1 x17_1).f0.f1)) ∧ w'.cell? ⟨gb174, 2, none⟩ = some (.int .i64 ((rd_T99 s0_1 x17_1).f0.f2)) ∧ w'.cell? ⟨gb174, 3, none⟩ = some (.int .i64 ((rd_T99 s0_1 x17_1).f0.f3)) ∧ w'.cell? ⟨gb174, 4, none⟩ = some (.int .i64 ((rd_T99 s0_1 x17_1).f0.f4)) ∧ w'.cell? ⟨gb174, 5, none⟩ = some (.int .i64 ((rd_T99 s0_1 x17_1).f0.f5)) ∧ w'.cell? ⟨gb174, 6, none⟩ = some (.int .i64 ((rd_T99 s0_1 x17_1).f1)) ∧ w'.cell? ⟨gb174, 7, none⟩ = some (.bool ((rd_T99 s0_1 x17_1).f2)) ∧ w'.cell? ⟨gb174, 8, none⟩ = some (.int .i64 ((rd_T99 s0_1 x17_1).f3))) (ds := []) #[false, false, false, false, false, false, false, false, false, false] (by kernel_rfl) rfl rfl ⟨(blk_cell BK174.out 0).trans rfl, (blk_cell BK174.out 1).trans rfl, (blk_cell BK174.out 2).trans rfl, (blk_cell BK174.out 3).trans rfl, (blk_cell BK174.out 4).trans rfl, (blk_cell BK174.out 5).trans rfl, (blk_cell BK174.out 6).trans rfl, (blk_cell BK174.out 7).trans rfl, (blk_cell BK174.out 8).trans rfl⟩ (fun hHeld => ?_); refine with_tabW flex_freeLong.tab5 flex_freeLong.bits5 (fun HT_ HW_ => ?_)
            generalize w11.drew = w12 at BK174 HI0 HK HB hHeld ⊢
            refine pure_ (i := 0) (N := some 21) (v := ?_) (a' := ?_) #[true, false, false, false, false, false, false, false, false, false] rfl rfl (any_of HT_.out (by kernel_rfl)) (fun _ _ _ h => h) (Or.inl ⟨by rfl, ?_⟩) ?_ ?_
            rotate_left
            · intro w'
              go_simp
              with_reducible rfl
            rotate_left
            · simp only [Act.put, List.setIfInBounds_toArray, List.set_cons_zero, List.set_cons_succ, i64_w, i32_w]
              rfl
            refine pure_ (i := 1) (N := some 22) (v := ?_) (a' := ?_) #[true, true, false, false, false, false, false, false, false, false] rfl rfl (any_of HT_.out (by kernel_rfl)) (fun _ _ _ h => h) (Or.inl ⟨by rfl, ?_⟩) ?_ ?_
            rotate_left
            · intro w'
              go_simp
              with_reducible rfl
            rotate_left
            · simp only [Act.put, List.setIfInBounds_toArray, List.set_cons_zero, List.set_cons_succ, i64_w, i32_w]
              rfl
            refine pure_ (i := 4) (N := some 25) (v := ?_) (a' := ?_) #[true, true, false, false, true, false, false, false, false, false] rfl rfl (any_of HT_.out (by kernel_rfl)) (fun _ _ _ h => h) (Or.inl ⟨by rfl, ?_⟩) ?_ ?_
            rotate_left
            · intro w'
              go_simp
              with_reducible rfl
            rotate_left
            · simp only [Act.put, List.setIfInBounds_toArray, List.set_cons_zero, List.set_cons_succ, i64_w, i32_w]
              rfl
            refine pure_ (i := 5) (N := some 26) (v := ?_) (a' := ?_) #[true, true, false, false, true, true, false, false, false, false] rfl rfl (any_of HT_.out (by kernel_rfl)) (fun _ _ _ h => h) (Or.inl ⟨by rfl, ?_⟩) ?_ ?_
            rotate_left
            · intro w'
              go_simp
              with_reducible rfl
            rotate_left
            · simp only [Act.put, List.setIfInBounds_toArray, List.set_cons_zero, List.set_cons_succ, i64_w, i32_w]
              rfl
            refine take_ (i := 2) (N := some 23) (v := ?_) (a' := ?_) #[true, true, true, false, true, true, false, false, false, false] rfl rfl (take_ofW HT_.out HW_.out (by kernel_rfl)) (fun _ _ _ h => h) (Or.inl ⟨by rfl, ?_⟩) hHeld ?_ ?_
            rotate_left
            · rintro w' ⟨s0, s1, s2, s3, s4, s5, s6, s7, s8⟩
              go_simp
              with_reducible rfl
            rotate_left
            · simp only [Act.put, List.setIfInBounds_toArray, List.set_cons_zero, List.set_cons_succ, i64_w, i32_w]
              rfl
            refine take_ (i := 6) (N := some 27) (v := ?_) (a' := ?_) #[true, true, true, false, true, true, true, false, false, false] rfl rfl (take_ofW HT_.out HW_.out (by kernel_rfl)) (fun _ _ _ h => h) (Or.inl ⟨by rfl, ?_⟩) hHeld ?_ ?_
            rotate_left
            · rintro w' ⟨s0, s1, s2, s3, s4, s5, s6, s7, s8⟩
              go_simp
              with_reducible rfl
            rotate_left
            · simp only [Act.put, List.setIfInBounds_toArray, List.set_cons_zero, List.set_cons_succ, i64_w, i32_w]
              rfl
            refine one_ (i := 3) (N := some 24) #[true, true, true, true, true, true, true, false, false, false] rfl rfl (one_of HT_.out (by kernel_rfl)) (by decide) (fun K hK => ?_)
            refine goesT_ Try.func66 (by kernel_rfl) rfl #[.agg #[.int .i64 ((rd_T99 s0_1 x17_1).f0.f0), .int .i64 ((rd_T99 s0_1 x17_1).f0.f1), .int .i64 ((rd_T99 s0_1 x17_1).f0.f2), .int .i64 ((rd_T99 s0_1 x17_1).f0.f3), .int .i64 ((rd_T99 s0_1 x17_1).f0.f4), .int .i64 ((rd_T99 s0_1 x17_1).f0.f5), .int .i64 ((rd_T99 s0_1 x17_1).f1), .bool ((rd_T99 s0_1 x17_1).f2), .int .i64 ((rd_T99 s0_1 x17_1).f3)]] (by rfl) rfl rfl rfl (by (try simp only [List.map_toArray, List.map_cons, List.map_nil]); first | done | rfl | (simp only [List.length_drop, List.length_take]; rfl)) ?_
            with_reducible refine (flex_Mains_fn1.calls ((rd_T99 s0_1 x17_1).f0.f0) ((rd_T99 s0_1 x17_1).f0.f1) ((rd_T99 s0_1 x17_1).f0.f2) ((rd_T99 s0_1 x17_1).f0.f3) ((rd_T99 s0_1 x17_1).f0.f4) ((rd_T99 s0_1 x17_1).f0.f5) ((rd_T99 s0_1 x17_1).f1) ((rd_T99 s0_1 x17_1).f2) ((rd_T99 s0_1 x17_1).f3) t175 _ A6.out).mono ?_
            rintro e w13 ⟨rfl, hb⟩
            refine ⟨_, rfl, ?_⟩
            have n0_ := Aside0.mk (IsS96.below (by repeat (first | (with_reducible first | exact HI0.out | apply IsS96.alloc | apply IsS96.drewN | apply IsS96.drew | apply IsS96.set_0 | apply IsS96.set_2 | refine IsS96.far ?_ NB0_174.out _) | exact HI0.out)) hb)
            have n1_ := Aside0.mk (blk_below (g := gb174) (o := .cells #[.int .i64 ((rd_T99 s0_1 x17_1).f0.f0), .int .i64 ((rd_T99 s0_1 x17_1).f0.f1), .int .i64 ((rd_T99 s0_1 x17_1).f0.f2), .int .i64 ((rd_T99 s0_1 x17_1).f0.f3), .int .i64 ((rd_T99 s0_1 x17_1).f0.f4), .int .i64 ((rd_T99 s0_1 x17_1).f0.f5), .int .i64 ((rd_T99 s0_1 x17_1).f1), .bool ((rd_T99 s0_1 x17_1).f2), .int .i64 ((rd_T99 s0_1 x17_1).f3)] 99 (0, 0)) (by (with_reducible repeat (first | refine blk_drewN ?_ _ | refine blk_drew ?_ | refine blk_alloc ?_ _)); exact BK174.out) hb)
            have n2_ := Aside0.mk (KeepBut.trans (by repeat (first | (with_reducible first | exact HK.out | apply KeepBut.set_ | apply keep_drewN | apply keep_drew | apply keep_alloc | refine keep_far ?_ GW174.out _) | exact HK.out)) (KeepBut.of_below hb g none) (.inl rfl))
            have n3_ := Aside0.mk (below_step (by repeat (first | (with_reducible first | exact HB.out | apply below_alloc | apply pw_below_drewN | apply below_drew1 | refine below_set ?_ (IsS96.ge HI0.out) | refine below_set ?_ GE174.out) | exact HB.out)) hb)
            clear HI0
            clear BK174
            clear HK
            clear HB
            have HI0 := n0_
            have BK174 := n1_
            have HK := n2_
            have HB := n3_
            clear n0_ n1_ n2_ n3_
            (try clear hb)
            (try clear hb2)
            (try clear hk)
            (try clear hi)
            refine hK.out _ _ ⟨(blk_cell BK174.out 0).trans rfl, (blk_cell BK174.out 1).trans rfl, (blk_cell BK174.out 2).trans rfl, (blk_cell BK174.out 3).trans rfl, (blk_cell BK174.out 4).trans rfl, (blk_cell BK174.out 5).trans rfl, (blk_cell BK174.out 6).trans rfl, (blk_cell BK174.out 7).trans rfl, (blk_cell BK174.out 8).trans rfl⟩ (fun hHeld => ?_)
            clear hK K
            refine norm_ (a' := ?_) ?_ ?_
            rotate_left
            · show Act.put _ (some 24) _ = _
              simp only [Act.put, List.setIfInBounds_toArray, List.set_cons_zero, List.set_cons_succ, i64_w, i32_w]
              rfl
            refine pure_ (i := 7) (N := some 28) (v := ?_) (a' := ?_) #[true, true, true, true, true, true, true, true, false, false] rfl rfl (any_of HT_.out (by kernel_rfl)) (fun _ _ _ h => h) (Or.inl ⟨by rfl, ?_⟩) ?_ ?_
            rotate_left
            · intro w'
              go_simp
              with_reducible rfl
            rotate_left
            · simp only [Act.put, List.setIfInBounds_toArray, List.set_cons_zero, List.set_cons_succ, i64_w, i32_w]
              rfl
            refine pure_ (i := 8) (N := some 29) (v := ?_) (a' := ?_) #[true, true, true, true, true, true, true, true, true, false] rfl rfl (any_of HT_.out (by kernel_rfl)) (fun _ _ _ h => h) (Or.inl ⟨by rfl, ?_⟩) ?_ ?_
            rotate_left
            · intro w'
              go_simp
              with_reducible rfl
            rotate_left
            · simp only [Act.put, List.setIfInBounds_toArray, List.set_cons_zero, List.set_cons_succ, i64_w, i32_w]
              rfl
            refine pure_ (i := 9) (N := some 5) (v := ?_) (a' := ?_) #[true, true, true, true, true, true, true, true, true, true] rfl rfl (any_of HT_.out (by kernel_rfl)) (fun _ _ _ h => h) (Or.inl ⟨by rfl, ?_⟩) ?_ ?_
            rotate_left
            · intro w'
              go_simp
              with_reducible rfl
            rotate_left
            · simp only [Act.put, List.setIfInBounds_toArray, List.set_cons_zero, List.set_cons_succ, i64_w, i32_w]
              rfl
            refine done_ (done_of HT_.out (by kernel_rfl)) ?_
            try go_wp2
            go_roundg k1
            case measure => have := HK1.out; omega
            case rel => exact ⟨(wrap64 (x5_1 - (wrap64 (t175 + ((rd_T99 s0_1 x17_1).f0.f5))))), (wrap64 (x17_1 + 1)), (by first | rfl | (simp; done) | (simp [*]; done)), (by first | rfl | (simp; done) | (simp [*]; done)), H', ⟨by have := HK1.out; omega⟩, ⟨by repeat (first | (with_reducible first | exact HI0.out | apply IsS96.alloc | apply IsS96.drewN | apply IsS96.drew | apply IsS96.set_0 | apply IsS96.set_2 | refine IsS96.far ?_ NB0_174.out _) | exact HI0.out)⟩, ⟨by repeat (first | (with_reducible first | exact HK.out | apply KeepBut.set_ | apply keep_drewN | apply keep_drew | apply keep_alloc | refine keep_far ?_ GW174.out _) | exact HK.out)⟩, ⟨by repeat (first | (with_reducible first | exact HB.out | apply below_alloc | apply pw_below_drewN | apply below_drew1 | refine below_set ?_ (IsS96.ge HI0.out) | refine below_set ?_ GE174.out) | exact HB.out)⟩⟩
          · rw [if_neg c5] at H
            exact absurd H (by simp)
        · rw [if_neg c4] at H
          exact absurd H (by simp)
      · rw [if_neg c3] at H
        have c3b0 : decide (x17_1 < (s0_1.length : Int)) = false := decide_eq_false c3
        clear c3
        simp only [Option.some.injEq, Prod.mk.injEq] at H
        obtain ⟨rfl, rfl, rfl⟩ := H
        go_wp2
        go_ret
        exact ⟨by first | rfl | (simp [errW_none, errW_some] <;> rfl) | (simp [*, errW_none, errW_some] <;> rfl), by repeat (first | (with_reducible first | exact HI0.out | apply IsS96.alloc | apply IsS96.drewN | apply IsS96.drew | apply IsS96.set_0 | apply IsS96.set_2) | exact HI0.out), by repeat (first | (with_reducible first | exact HB.out | apply below_alloc | apply pw_below_drewN | apply below_drew1 | refine below_set ?_ (IsS96.ge HI0.out)) | exact HB.out), by repeat (first | (with_reducible first | exact HK.out | apply KeepBut.set_ | apply keep_drewN | apply keep_drew | apply keep_alloc) | exact HK.out)⟩

end Go.Proofs.Ytaejmgdpnnhpmaa.QFlex
