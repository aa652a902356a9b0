-- Written by a program of this session: a turn of the kit's print over contracts that were proved by hand. Not trusted: Lean checks it.
import Derived.Test.YtaejmgdpnnhpmaaQFlexx0
import Derived.Test.YtaejmgdpnnhpmaaCallT
import Derived.Test.YtaejmgdpnnhpmaaQFlexx1
import Derived.Test.YtaejmgdpnnhpmaaQFlexx2
namespace Go.Proofs.Ytaejmgdpnnhpmaa.QFlex
open Go.RowKit Go.Proofs.YtaejmgdpnnhpmaaW.PrintWords Go.Proofs.YtaejmgdpnnhpmaaW.PrintLast Go.Proofs.YtaejmgdpnnhpmaaW.PrintMore
attribute [local go_sem] max2_int min2_int max_two min_two max_three min_three max_four min_four   -- for this text's walks alone
set_option linter.unusedVariables false
set_option linter.unusedSimpArgs false
variable {hA_ : Option Addr} {hc_ : Nat}

/-! ### flex_freeNow: function 154 -/
def flex_freeNow.l0 : Nat → Int → List (S99) → Int → Int → Int → List (S99) → Bool → Option (Int × Int × Bool)
  | 0, _, _, _, _, _, _, _ => none
  | k + 1, x5, x15, x16, x17, x1000, x1001, x1002 => if x17 < x16 then (if 0 ≤ x17 then (if x17 < (x15.length : Int) then ((flex_row_now_fn1.f ((rd_T99 x15 x17).f0.f0) ((rd_T99 x15 x17).f0.f1) ((rd_T99 x15 x17).f0.f2) ((rd_T99 x15 x17).f0.f3) ((rd_T99 x15 x17).f0.f4) ((rd_T99 x15 x17).f0.f5) ((rd_T99 x15 x17).f1) ((rd_T99 x15 x17).f2) ((rd_T99 x15 x17).f3)).bind fun t124 => (flex_freeNow.l0 k (wrap64 (x5 - (wrap64 (t124 + ((rd_T99 x15 x17).f0.f5))))) x15 x16 (wrap64 (x17 + 1)) x1000 x1001 x1002)) else (none)) else (none)) else (some (x5, x1000, x1002))
def flex_freeNow.f (k : Nat) (s0_0 : Int) (s0_1 : List (S99)) (s0_2 : Bool) : Option (Int × Int × Bool) := flex_freeNow.l0 k s0_0 s0_1 (s0_1.length : Int) 0 s0_0 s0_1 s0_2
theorem flex_freeNow.mono_l : ∀ k, (∀ y0 y1 y2 y3 y4 y5 y6, LeO (flex_freeNow.l0 k y0 y1 y2 y3 y4 y5 y6) (flex_freeNow.l0 (k + 1) y0 y1 y2 y3 y4 y5 y6))
  | 0 => fun _ _ _ _ _ _ _ r h => by simp [flex_freeNow.l0] at h
  | k + 1 => by
    have ih0 := flex_freeNow.mono_l k
    · intro y0 y1 y2 y3 y4 y5 y6
      unfold flex_freeNow.l0
      repeat' first
      | (with_reducible exact ih0 _ _ _ _ _ _ _)
      | (with_reducible exact LeO.refl _)
      | (with_reducible exact LeO.none _)
      | (with_reducible refine LeO.ite ?_ ?_)
      | (with_reducible refine LeO.bind ?_ (fun _ => ?_))
      | exact ih0 _ _ _ _ _ _ _
      | exact LeO.none _
      | refine LeO.ite ?_ ?_
      | refine LeO.bind ?_ (fun _ => ?_)
theorem flex_freeNow.mono : ∀ a0 a1 a2 k, LeO (flex_freeNow.f k a0 a1 a2) (flex_freeNow.f (k + 1) a0 a1 a2) := by
  intro a0 a1 a2 k
  have ih0 := flex_freeNow.mono_l k
  unfold flex_freeNow.f
  repeat' first
      | (with_reducible exact ih0 _ _ _ _ _ _ _)
      | (with_reducible exact LeO.refl _)
      | (with_reducible exact LeO.none _)
      | (with_reducible refine LeO.ite ?_ ?_)
      | (with_reducible refine LeO.bind ?_ (fun _ => ?_))
      | exact ih0 _ _ _ _ _ _ _
      | exact LeO.none _
      | refine LeO.ite ?_ ?_
      | refine LeO.bind ?_ (fun _ => ?_)
def flex_freeNow.T5 : Bool × List (List Nat × List Nat) := (true, [([], []), ([], []), ([], []), ([1, 2], [1, 2]), ([], []), ([4], [4]), ([5], [5]), ([3, 6], [3, 6]), ([0, 7], [0, 7]), ([8, 3, 0, 1, 2, 3, 4, 5, 6, 7, 8], [0, 8])])
def flex_freeNow.B5 : List Nat := [0, 0, 0, 6, 0, 16, 48, 126, 255, 511]
theorem flex_freeNow.tab5 : rtab .any (opsOf Try.f65 5) = flex_freeNow.T5 := by kernel_rfl
theorem flex_freeNow.bits5 : waitsOk flex_freeNow.T5.2 flex_freeNow.B5 = true := by kernel_rfl
set_option maxHeartbeats 8000000 in
set_option maxRecDepth 100000 in
theorem flex_freeNow.calls (k : Nat) (g : Nat) (s0_0 : Int) (s0_1 : List (S99)) (s0_2 : Bool) (r1 : Int) (r2 : Int) (r3 : Bool) (w0 w : World) (hI : IsS96 hA_ hc_ w0 w g s0_0 s0_1 s0_2) (hB : Below w0.heap.size w0 w) (h : flex_freeNow.f k s0_0 s0_1 s0_2 = some (r1, r2, r3)) :
    Calls Try.prog 65 #[.pointer (some ⟨g, 0, none⟩), .func (.func 107) #[] #[]] w fun e w' => e = .returned (.int .i64 r1) ∧ IsS96 hA_ hc_ w0 w' g r2 s0_1 r3 ∧ Below w0.heap.size w0 w' ∧ KeepBut w w' g none := by
  have hu99 := Try.underlying99
  have HI0 := Aside0.mk hI
  have HK := Aside0.mk (KeepBut.refl w g none)
  have HL := Aside0.mk hB.size
  clear hI
  have HW0 := Aside0.mk hB.size
  have HB := Aside0.mk hB
  clear hB
  have H : (flex_freeNow.l0 k s0_0 s0_1 (s0_1.length : Int) 0 s0_0 s0_1 s0_2) = some (r1, r2, r3) := h
  clear h
  have H' := Aside0.mk H
  clear H
  obtain ⟨ASz2_1, cSz2_1, HGz2, hgz2, HSz2_1⟩ := HI0.out
  have hcz2_0 := cellS96_0 HGz2
  have hcz2_1 := cellS96_1 HGz2
  have hcz2_2 := cellS96_2 HGz2
  have hfz2_0 := blk_frozen HGz2 0
  have hfz2_2 := blk_frozen HGz2 2
  clear HGz2 hgz2
  go_enter Try.func65, Try.ntmps65
  go_wp2
  go_loopg [5, 17] k (fun kq v5 v17 w' => ∃ (x5_1 : Int) (x17_1 : Int), v5 = .int .i64 x5_1 ∧ v17 = .int .i64 x17_1 ∧ Aside0 (flex_freeNow.l0 kq x5_1 s0_1 (s0_1.length : Int) x17_1 s0_0 s0_1 s0_2 = some (r1, r2, r3)) ∧ Aside0 (kq ≤ k) ∧ Aside0 (IsS96 hA_ hc_ w0 w' g s0_0 s0_1 s0_2) ∧ Aside0 (KeepBut w w' g none) ∧ Aside0 (Below w0.heap.size w0 w'))
  case atStart => exact ⟨(s0_0), (0), (by first | rfl | (simp; done) | (simp [*]; done)), (by first | rfl | (simp; done) | (simp [*]; done)), H', ⟨Nat.le_refl _⟩, ⟨by repeat (first | (with_reducible first | exact HI0.out | apply IsS96.alloc | apply IsS96.drewN | apply IsS96.drew | apply IsS96.set_0 | apply IsS96.set_2) | exact HI0.out)⟩, ⟨by repeat (first | (with_reducible first | exact HK.out | apply KeepBut.set_ | apply keep_drewN | apply keep_drew | apply keep_alloc) | exact HK.out)⟩, ⟨by repeat (first | (with_reducible first | exact HB.out | apply below_alloc | apply pw_below_drewN | apply below_drew1 | refine below_set ?_ (IsS96.ge HI0.out)) | exact HB.out)⟩⟩
  case round =>
    clear H'
    try clear c1
    try clear p2
    try clear hcz2_0
    try clear hcz2_1
    try clear hcz2_2
    try clear hfz2_0
    try clear hfz2_2
    obtain ⟨x5_1, x17_1, rfl, rfl, HA, HK1, HI0, HK, HB⟩ := hrel
    cases gk with
    | zero => exact absurd HA.out (by simp [flex_freeNow.l0])
    | succ k1 =>
      have H := HA.out
      clear HA
      simp only [flex_freeNow.l0] at H
      by_cases c3 : x17_1 < (s0_1.length : Int)
      · rw [if_pos c3] at H
        have c3b0 : decide (x17_1 < (s0_1.length : Int)) = true := decide_eq_true c3
        clear c3
        by_cases c4 : 0 ≤ x17_1
        · rw [if_pos c4] at H
          have c4b0 : decide (0 ≤ x17_1) = true := decide_eq_true c4
          clear c4
          by_cases c5 : x17_1 < (s0_1.length : Int)
          · rw [if_pos c5] at H
            have c5b0 : decide (x17_1 < (s0_1.length : Int)) = true := decide_eq_true c5
            clear c5
            replace H := Option.bind_eq_some_iff.mp H
            obtain ⟨t124, A60, H⟩ := H
            replace H : (flex_freeNow.l0 k1 (wrap64 (x5_1 - (wrap64 (t124 + ((rd_T99 s0_1 x17_1).f0.f5))))) s0_1 (s0_1.length : Int) (wrap64 (x17_1 + 1)) s0_0 s0_1 s0_2) = some (r1, r2, r3) := H
            have A6 := Aside0.mk A60
            clear A60
            have H' := Aside0.mk H
            clear H
            obtain ⟨ASz7_1, cSz7_1, HGz7, hgz7, HSz7_1⟩ := HI0.out
            have hcz7_0 := cellS96_0 HGz7
            have hcz7_1 := cellS96_1 HGz7
            have hcz7_2 := cellS96_2 HGz7
            have hfz7_0 := blk_frozen HGz7 0
            have hfz7_2 := blk_frozen HGz7 2
            clear HGz7 hgz7
            have p122 : 0 ≤ (x17_1 : Int) := of_decide_eq_true (by first | (with_reducible assumption) | assumption)
            have q122 : x17_1 < (s0_1.length : Int) := of_decide_eq_true (by first | (with_reducible assumption) | assumption)
            obtain ⟨ad122, e122, hx122_0, hx122_1, hx122_2, hx122_3, hx122_4, hx122_5, hx122_6, hx122_7, hx122_8⟩ := at_T99 HSz2_1 x17_1 p122 q122
            cases e122
            replace hx122_0 := pw_cell_below HB.out hx122_0
            replace hx122_1 := pw_cell_below HB.out hx122_1
            replace hx122_2 := pw_cell_below HB.out hx122_2
            replace hx122_3 := pw_cell_below HB.out hx122_3
            replace hx122_4 := pw_cell_below HB.out hx122_4
            replace hx122_5 := pw_cell_below HB.out hx122_5
            replace hx122_6 := pw_cell_below HB.out hx122_6
            replace hx122_7 := pw_cell_below HB.out hx122_7
            replace hx122_8 := pw_cell_below HB.out hx122_8
            replace p122 := eq_true p122
            replace q122 := eq_true q122
            try go_wp2_with (first | ((with_reducible refine gate_dst (N := 7) rfl ?_); refine box_event ?hg (N := 7) ?hd (cs := #[.int .i64 0, .int .i64 0, .int .i64 0, .int .i64 0, .int .i64 0, .int .i64 0, .int .i64 0, .bool false, .int .i64 0]) (t := 99) ?hr ?_; (case hd => rfl); (case hg => rfl); (case hr => first | (go_simp; done) | (go_simp; rfl)); intro gb123 hg w8 hbox hb; have n0_ := Aside0.mk (IsS96.below (by repeat (first | (with_reducible first | exact HI0.out | apply IsS96.alloc | apply IsS96.drewN | apply IsS96.drew | apply IsS96.set_0 | apply IsS96.set_2) | exact HI0.out)) hb); have n1_ := Aside0.mk (KeepBut.trans (by repeat (first | (with_reducible first | exact HK.out | apply KeepBut.set_ | apply keep_drewN | apply keep_drew | apply keep_alloc) | exact HK.out)) (KeepBut.of_below hb g none) (.inl rfl)); have n2_ := Aside0.mk (below_step (by repeat (first | (with_reducible first | exact HB.out | apply below_alloc | apply pw_below_drewN | apply below_drew1 | refine below_set ?_ (IsS96.ge HI0.out)) | exact HB.out)) hb); have n3_ := Aside0.mk (hbox); have n4_ := Aside0.mk ((by rw [hg]; exact (keep_size (w := w) (g := g) (row := none) (by repeat (first | (with_reducible first | exact HK.out | apply KeepBut.set_ | apply keep_drewN | apply keep_drew | apply keep_alloc) | exact HK.out))) : w.heap.size ≤ gb123)); have n5_ := Aside0.mk ((Nat.le_trans HW0.out (by rw [hg]; exact (keep_size (w := w) (g := g) (row := none) (by repeat (first | (with_reducible first | exact HK.out | apply KeepBut.set_ | apply keep_drewN | apply keep_drew | apply keep_alloc) | exact HK.out))) : w.heap.size ≤ gb123) : w0.heap.size ≤ gb123)); have n6_ := Aside0.mk ((by rw [hg]; exact Nat.ne_of_lt (IsS96.lt (show IsS96 hA_ hc_ w0 _ g s0_0 s0_1 s0_2 from by repeat (first | (with_reducible first | exact HI0.out | apply IsS96.alloc | apply IsS96.drewN | apply IsS96.drew | apply IsS96.set_0 | apply IsS96.set_2) | exact HI0.out))) : g ≠ gb123)); have n7_ := Aside0.mk ((by rw [hg]; exact Nat.ne_of_gt (IsS96.lt (show IsS96 hA_ hc_ w0 _ g s0_0 s0_1 s0_2 from by repeat (first | (with_reducible first | exact HI0.out | apply IsS96.alloc | apply IsS96.drewN | apply IsS96.drew | apply IsS96.set_0 | apply IsS96.set_2) | exact HI0.out))) : gb123 ≠ g)); clear HI0; clear HK; clear HB; have HI0 := n0_; have HK := n1_; have HB := n2_; have BK123 := n3_; have GW123 := n4_; have GE123 := n5_; have NB0_123 := n6_; have NB123_0 := n7_; clear n0_ n1_ n2_ n3_ n4_ n5_ n6_ n7_; clear hb hbox hg; have hnb9 := NB123_0.out; have hnc9 := NB0_123.out; have hcz10_0 : w8.cell? ⟨gb123, 0, none⟩ = some (.int .i64 0) := (blk_cell BK123.out 0).trans rfl; have hcz10_1 : w8.cell? ⟨gb123, 1, none⟩ = some (.int .i64 0) := (blk_cell BK123.out 1).trans rfl; have hcz10_2 : w8.cell? ⟨gb123, 2, none⟩ = some (.int .i64 0) := (blk_cell BK123.out 2).trans rfl; have hcz10_3 : w8.cell? ⟨gb123, 3, none⟩ = some (.int .i64 0) := (blk_cell BK123.out 3).trans rfl; have hcz10_4 : w8.cell? ⟨gb123, 4, none⟩ = some (.int .i64 0) := (blk_cell BK123.out 4).trans rfl; have hcz10_5 : w8.cell? ⟨gb123, 5, none⟩ = some (.int .i64 0) := (blk_cell BK123.out 5).trans rfl; have hcz10_6 : w8.cell? ⟨gb123, 6, none⟩ = some (.int .i64 0) := (blk_cell BK123.out 6).trans rfl; have hcz10_7 : w8.cell? ⟨gb123, 7, none⟩ = some (.bool false) := (blk_cell BK123.out 7).trans rfl; have hcz10_8 : w8.cell? ⟨gb123, 8, none⟩ = some (.int .i64 0) := (blk_cell BK123.out 8).trans rfl; have hfz10_0 := blk_frozen BK123.out 0; have hfz10_1 := blk_frozen BK123.out 1; have hfz10_2 := blk_frozen BK123.out 2; have hfz10_3 := blk_frozen BK123.out 3; have hfz10_4 := blk_frozen BK123.out 4; have hfz10_5 := blk_frozen BK123.out 5; have hfz10_6 := blk_frozen BK123.out 6; have hfz10_7 := blk_frozen BK123.out 7; have hfz10_8 := blk_frozen BK123.out 8))
            have n0_ : Aside0 ((((((((((w8.setCell ⟨gb123, 0, none⟩ (.int .i64 ((rd_T99 s0_1 x17_1).f0.f0))).setCell ⟨gb123, 1, none⟩ (.int .i64 ((rd_T99 s0_1 x17_1).f0.f1))).setCell ⟨gb123, 2, none⟩ (.int .i64 ((rd_T99 s0_1 x17_1).f0.f2))).setCell ⟨gb123, 3, none⟩ (.int .i64 ((rd_T99 s0_1 x17_1).f0.f3))).setCell ⟨gb123, 4, none⟩ (.int .i64 ((rd_T99 s0_1 x17_1).f0.f4))).setCell ⟨gb123, 5, none⟩ (.int .i64 ((rd_T99 s0_1 x17_1).f0.f5))).setCell ⟨gb123, 6, none⟩ (.int .i64 ((rd_T99 s0_1 x17_1).f1))).setCell ⟨gb123, 7, none⟩ (.bool ((rd_T99 s0_1 x17_1).f2))).setCell ⟨gb123, 8, none⟩ (.int .i64 ((rd_T99 s0_1 x17_1).f3))).heap[gb123]? = some (.cells #[.int .i64 ((rd_T99 s0_1 x17_1).f0.f0), .int .i64 ((rd_T99 s0_1 x17_1).f0.f1), .int .i64 ((rd_T99 s0_1 x17_1).f0.f2), .int .i64 ((rd_T99 s0_1 x17_1).f0.f3), .int .i64 ((rd_T99 s0_1 x17_1).f0.f4), .int .i64 ((rd_T99 s0_1 x17_1).f0.f5), .int .i64 ((rd_T99 s0_1 x17_1).f1), .bool ((rd_T99 s0_1 x17_1).f2), .int .i64 ((rd_T99 s0_1 x17_1).f3)] 99 (0, 0))) := ⟨by (with_reducible repeat (first | refine blk_drewN ?_ _ | refine blk_drew ?_ | refine blk_alloc ?_ _)); refine blk_put (cs := #[.int .i64 ((rd_T99 s0_1 x17_1).f0.f0), .int .i64 ((rd_T99 s0_1 x17_1).f0.f1), .int .i64 ((rd_T99 s0_1 x17_1).f0.f2), .int .i64 ((rd_T99 s0_1 x17_1).f0.f3), .int .i64 ((rd_T99 s0_1 x17_1).f0.f4), .int .i64 ((rd_T99 s0_1 x17_1).f0.f5), .int .i64 ((rd_T99 s0_1 x17_1).f1), .bool ((rd_T99 s0_1 x17_1).f2), .int .i64 0]) ?_ 8 _ rfl; (with_reducible repeat (first | refine blk_drewN ?_ _ | refine blk_drew ?_ | refine blk_alloc ?_ _)); refine blk_put (cs := #[.int .i64 ((rd_T99 s0_1 x17_1).f0.f0), .int .i64 ((rd_T99 s0_1 x17_1).f0.f1), .int .i64 ((rd_T99 s0_1 x17_1).f0.f2), .int .i64 ((rd_T99 s0_1 x17_1).f0.f3), .int .i64 ((rd_T99 s0_1 x17_1).f0.f4), .int .i64 ((rd_T99 s0_1 x17_1).f0.f5), .int .i64 ((rd_T99 s0_1 x17_1).f1), .bool false, .int .i64 0]) ?_ 7 _ rfl; (with_reducible repeat (first | refine blk_drewN ?_ _ | refine blk_drew ?_ | refine blk_alloc ?_ _)); refine blk_put (cs := #[.int .i64 ((rd_T99 s0_1 x17_1).f0.f0), .int .i64 ((rd_T99 s0_1 x17_1).f0.f1), .int .i64 ((rd_T99 s0_1 x17_1).f0.f2), .int .i64 ((rd_T99 s0_1 x17_1).f0.f3), .int .i64 ((rd_T99 s0_1 x17_1).f0.f4), .int .i64 ((rd_T99 s0_1 x17_1).f0.f5), .int .i64 0, .bool false, .int .i64 0]) ?_ 6 _ rfl; (with_reducible repeat (first | refine blk_drewN ?_ _ | refine blk_drew ?_ | refine blk_alloc ?_ _)); refine blk_put (cs := #[.int .i64 ((rd_T99 s0_1 x17_1).f0.f0), .int .i64 ((rd_T99 s0_1 x17_1).f0.f1), .int .i64 ((rd_T99 s0_1 x17_1).f0.f2), .int .i64 ((rd_T99 s0_1 x17_1).f0.f3), .int .i64 ((rd_T99 s0_1 x17_1).f0.f4), .int .i64 0, .int .i64 0, .bool false, .int .i64 0]) ?_ 5 _ rfl; (with_reducible repeat (first | refine blk_drewN ?_ _ | refine blk_drew ?_ | refine blk_alloc ?_ _)); refine blk_put (cs := #[.int .i64 ((rd_T99 s0_1 x17_1).f0.f0), .int .i64 ((rd_T99 s0_1 x17_1).f0.f1), .int .i64 ((rd_T99 s0_1 x17_1).f0.f2), .int .i64 ((rd_T99 s0_1 x17_1).f0.f3), .int .i64 0, .int .i64 0, .int .i64 0, .bool false, .int .i64 0]) ?_ 4 _ rfl; (with_reducible repeat (first | refine blk_drewN ?_ _ | refine blk_drew ?_ | refine blk_alloc ?_ _)); refine blk_put (cs := #[.int .i64 ((rd_T99 s0_1 x17_1).f0.f0), .int .i64 ((rd_T99 s0_1 x17_1).f0.f1), .int .i64 ((rd_T99 s0_1 x17_1).f0.f2), .int .i64 0, .int .i64 0, .int .i64 0, .int .i64 0, .bool false, .int .i64 0]) ?_ 3 _ rfl; (with_reducible repeat (first | refine blk_drewN ?_ _ | refine blk_drew ?_ | refine blk_alloc ?_ _)); refine blk_put (cs := #[.int .i64 ((rd_T99 s0_1 x17_1).f0.f0), .int .i64 ((rd_T99 s0_1 x17_1).f0.f1), .int .i64 0, .int .i64 0, .int .i64 0, .int .i64 0, .int .i64 0, .bool false, .int .i64 0]) ?_ 2 _ rfl; (with_reducible repeat (first | refine blk_drewN ?_ _ | refine blk_drew ?_ | refine blk_alloc ?_ _)); refine blk_put (cs := #[.int .i64 ((rd_T99 s0_1 x17_1).f0.f0), .int .i64 0, .int .i64 0, .int .i64 0, .int .i64 0, .int .i64 0, .int .i64 0, .bool false, .int .i64 0]) ?_ 1 _ rfl; (with_reducible repeat (first | refine blk_drewN ?_ _ | refine blk_drew ?_ | refine blk_alloc ?_ _)); refine blk_put (cs := #[.int .i64 0, .int .i64 0, .int .i64 0, .int .i64 0, .int .i64 0, .int .i64 0, .int .i64 0, .bool false, .int .i64 0]) ?_ 0 _ rfl; (with_reducible repeat (first | refine blk_drewN ?_ _ | refine blk_drew ?_ | refine blk_alloc ?_ _)); exact BK123.out⟩
            have n1_ : Aside0 (IsS96 hA_ hc_ w0 (((((((((w8.setCell ⟨gb123, 0, none⟩ (.int .i64 ((rd_T99 s0_1 x17_1).f0.f0))).setCell ⟨gb123, 1, none⟩ (.int .i64 ((rd_T99 s0_1 x17_1).f0.f1))).setCell ⟨gb123, 2, none⟩ (.int .i64 ((rd_T99 s0_1 x17_1).f0.f2))).setCell ⟨gb123, 3, none⟩ (.int .i64 ((rd_T99 s0_1 x17_1).f0.f3))).setCell ⟨gb123, 4, none⟩ (.int .i64 ((rd_T99 s0_1 x17_1).f0.f4))).setCell ⟨gb123, 5, none⟩ (.int .i64 ((rd_T99 s0_1 x17_1).f0.f5))).setCell ⟨gb123, 6, none⟩ (.int .i64 ((rd_T99 s0_1 x17_1).f1))).setCell ⟨gb123, 7, none⟩ (.bool ((rd_T99 s0_1 x17_1).f2))).setCell ⟨gb123, 8, none⟩ (.int .i64 ((rd_T99 s0_1 x17_1).f3))) g s0_0 s0_1 s0_2) := ⟨by repeat (first | (with_reducible first | exact HI0.out | apply IsS96.alloc | apply IsS96.drewN | apply IsS96.drew | apply IsS96.set_0 | apply IsS96.set_2 | refine IsS96.far ?_ NB0_123.out _) | exact HI0.out)⟩
            have n2_ : Aside0 (KeepBut w (((((((((w8.setCell ⟨gb123, 0, none⟩ (.int .i64 ((rd_T99 s0_1 x17_1).f0.f0))).setCell ⟨gb123, 1, none⟩ (.int .i64 ((rd_T99 s0_1 x17_1).f0.f1))).setCell ⟨gb123, 2, none⟩ (.int .i64 ((rd_T99 s0_1 x17_1).f0.f2))).setCell ⟨gb123, 3, none⟩ (.int .i64 ((rd_T99 s0_1 x17_1).f0.f3))).setCell ⟨gb123, 4, none⟩ (.int .i64 ((rd_T99 s0_1 x17_1).f0.f4))).setCell ⟨gb123, 5, none⟩ (.int .i64 ((rd_T99 s0_1 x17_1).f0.f5))).setCell ⟨gb123, 6, none⟩ (.int .i64 ((rd_T99 s0_1 x17_1).f1))).setCell ⟨gb123, 7, none⟩ (.bool ((rd_T99 s0_1 x17_1).f2))).setCell ⟨gb123, 8, none⟩ (.int .i64 ((rd_T99 s0_1 x17_1).f3))) g none) := ⟨by repeat (first | (with_reducible first | exact HK.out | apply KeepBut.set_ | apply keep_drewN | apply keep_drew | apply keep_alloc | refine keep_far ?_ GW123.out _) | exact HK.out)⟩
            have n3_ : Aside0 (Below w0.heap.size w0 (((((((((w8.setCell ⟨gb123, 0, none⟩ (.int .i64 ((rd_T99 s0_1 x17_1).f0.f0))).setCell ⟨gb123, 1, none⟩ (.int .i64 ((rd_T99 s0_1 x17_1).f0.f1))).setCell ⟨gb123, 2, none⟩ (.int .i64 ((rd_T99 s0_1 x17_1).f0.f2))).setCell ⟨gb123, 3, none⟩ (.int .i64 ((rd_T99 s0_1 x17_1).f0.f3))).setCell ⟨gb123, 4, none⟩ (.int .i64 ((rd_T99 s0_1 x17_1).f0.f4))).setCell ⟨gb123, 5, none⟩ (.int .i64 ((rd_T99 s0_1 x17_1).f0.f5))).setCell ⟨gb123, 6, none⟩ (.int .i64 ((rd_T99 s0_1 x17_1).f1))).setCell ⟨gb123, 7, none⟩ (.bool ((rd_T99 s0_1 x17_1).f2))).setCell ⟨gb123, 8, none⟩ (.int .i64 ((rd_T99 s0_1 x17_1).f3)))) := ⟨by repeat (first | (with_reducible first | exact HB.out | apply below_alloc | apply pw_below_drewN | apply below_drew1 | refine below_set ?_ (IsS96.ge HI0.out) | refine below_set ?_ GE123.out) | exact HB.out)⟩
            (try clear BK123)
            (try clear HI0)
            (try clear HK)
            (try clear HB)
            generalize (((((((((w8.setCell ⟨gb123, 0, none⟩ (.int .i64 ((rd_T99 s0_1 x17_1).f0.f0))).setCell ⟨gb123, 1, none⟩ (.int .i64 ((rd_T99 s0_1 x17_1).f0.f1))).setCell ⟨gb123, 2, none⟩ (.int .i64 ((rd_T99 s0_1 x17_1).f0.f2))).setCell ⟨gb123, 3, none⟩ (.int .i64 ((rd_T99 s0_1 x17_1).f0.f3))).setCell ⟨gb123, 4, none⟩ (.int .i64 ((rd_T99 s0_1 x17_1).f0.f4))).setCell ⟨gb123, 5, none⟩ (.int .i64 ((rd_T99 s0_1 x17_1).f0.f5))).setCell ⟨gb123, 6, none⟩ (.int .i64 ((rd_T99 s0_1 x17_1).f1))).setCell ⟨gb123, 7, none⟩ (.bool ((rd_T99 s0_1 x17_1).f2))).setCell ⟨gb123, 8, none⟩ (.int .i64 ((rd_T99 s0_1 x17_1).f3))) = w11 at n0_ n1_ n2_ n3_ ⊢
            have BK123 := n0_
            have HI0 := n1_
            have HK := n2_
            have HB := n3_
            clear n0_ n1_ n2_ n3_
            have n0_ := Aside0.mk (blk_drew BK123.out)
            have n1_ := Aside0.mk (IsS96.drew HI0.out)
            have n2_ := Aside0.mk (keep_drew HK.out)
            have n3_ := Aside0.mk (below_drew1 HB.out)
            clear BK123
            clear HI0
            clear HK
            clear HB
            have BK123 := n0_
            have HI0 := n1_
            have HK := n2_
            have HB := n3_
            clear n0_ n1_ n2_ n3_
            refine start_ (n := 10) (S := fun w' => w'.cell? ⟨gb123, 0, none⟩ = some (.int .i64 ((rd_T99 s0_1 x17_1).f0.f0)) ∧ w'.cell? ⟨gb123, 1, none⟩ = some (.int .i64 ((rd_T99 s0_1 x17_1).f0.f1)) ∧ w'.cell? ⟨gb123, 2, none⟩ = some (.int .i64 ((rd_T99 s0_1 x17_1).f0.f2)) ∧ w'.cell? ⟨gb123, 3, none⟩ = some (.int .i64 ((rd_T99 s0_1 x17_1).f0.f3)) ∧ w'.cell? ⟨gb123, 4, none⟩ = some (.int .i64 ((rd_T99 s0_1 x17_1).f0.f4)) ∧ w'.cell? ⟨gb123, 5, none⟩ = some (.int .i64 ((rd_T99 s0_1 x17_1).f0.f5)) ∧ w'.cell? ⟨gb123, 6, none⟩ = some (.int .i64 ((rd_T99 s0_1 x17_1).f1)) ∧ w'.cell? ⟨gb123, 7, none⟩ = some (.bool ((rd_T99 s0_1 x17_1).f2)) ∧ w'.cell? ⟨gb123, 8, none⟩ = some (.int .i64 ((rd_T99 s0_1 x17_1).f3))) (ds := []) #[false, false, false, false, false, false, false, false, false, false] (by kernel_rfl) rfl rfl ⟨(blk_cell BK123.out 0).trans rfl, (blk_cell BK123.out 1).trans rfl, (blk_cell BK123.out 2).trans rfl, (blk_cell BK123.out 3).trans rfl, (blk_cell BK123.out 4).trans rfl, (blk_cell BK123.out 5).trans rfl, (blk_cell BK123.out 6).trans rfl, (blk_cell BK123.out 7).trans rfl, (blk_cell BK123.out 8).trans rfl⟩ (fun hHeld => ?_); refine with_tabW flex_freeNow.tab5 flex_freeNow.bits5 (fun HT_ HW_ => ?_)
            generalize w11.drew = w12 at BK123 HI0 HK HB hHeld ⊢
            refine pure_ (i := 0) (N := some 21) (v := ?_) (a' := ?_) #[true, false, false, false, false, false, false, false, false, false] rfl rfl (any_of HT_.out (by kernel_rfl)) (fun _ _ _ h => h) (Or.inl ⟨by rfl, ?_⟩) ?_ ?_
            rotate_left
            · intro w'
              go_simp
              with_reducible rfl
            rotate_left
            · simp only [Act.put, List.setIfInBounds_toArray, List.set_cons_zero, List.set_cons_succ, i64_w, i32_w]
              rfl
            refine pure_ (i := 1) (N := some 22) (v := ?_) (a' := ?_) #[true, true, false, false, false, false, false, false, false, false] rfl rfl (any_of HT_.out (by kernel_rfl)) (fun _ _ _ h => h) (Or.inl ⟨by rfl, ?_⟩) ?_ ?_
            rotate_left
            · intro w'
              go_simp
              with_reducible rfl
            rotate_left
            · simp only [Act.put, List.setIfInBounds_toArray, List.set_cons_zero, List.set_cons_succ, i64_w, i32_w]
              rfl
            refine pure_ (i := 4) (N := some 25) (v := ?_) (a' := ?_) #[true, true, false, false, true, false, false, false, false, false] rfl rfl (any_of HT_.out (by kernel_rfl)) (fun _ _ _ h => h) (Or.inl ⟨by rfl, ?_⟩) ?_ ?_
            rotate_left
            · intro w'
              go_simp
              with_reducible rfl
            rotate_left
            · simp only [Act.put, List.setIfInBounds_toArray, List.set_cons_zero, List.set_cons_succ, i64_w, i32_w]
              rfl
            refine pure_ (i := 5) (N := some 26) (v := ?_) (a' := ?_) #[true, true, false, false, true, true, false, false, false, false] rfl rfl (any_of HT_.out (by kernel_rfl)) (fun _ _ _ h => h) (Or.inl ⟨by rfl, ?_⟩) ?_ ?_
            rotate_left
            · intro w'
              go_simp
              with_reducible rfl
            rotate_left
            · simp only [Act.put, List.setIfInBounds_toArray, List.set_cons_zero, List.set_cons_succ, i64_w, i32_w]
              rfl
            refine take_ (i := 2) (N := some 23) (v := ?_) (a' := ?_) #[true, true, true, false, true, true, false, false, false, false] rfl rfl (take_ofW HT_.out HW_.out (by kernel_rfl)) (fun _ _ _ h => h) (Or.inl ⟨by rfl, ?_⟩) hHeld ?_ ?_
            rotate_left
            · rintro w' ⟨s0, s1, s2, s3, s4, s5, s6, s7, s8⟩
              go_simp
              with_reducible rfl
            rotate_left
            · simp only [Act.put, List.setIfInBounds_toArray, List.set_cons_zero, List.set_cons_succ, i64_w, i32_w]
              rfl
            refine take_ (i := 6) (N := some 27) (v := ?_) (a' := ?_) #[true, true, true, false, true, true, true, false, false, false] rfl rfl (take_ofW HT_.out HW_.out (by kernel_rfl)) (fun _ _ _ h => h) (Or.inl ⟨by rfl, ?_⟩) hHeld ?_ ?_
            rotate_left
            · rintro w' ⟨s0, s1, s2, s3, s4, s5, s6, s7, s8⟩
              go_simp
              with_reducible rfl
            rotate_left
            · simp only [Act.put, List.setIfInBounds_toArray, List.set_cons_zero, List.set_cons_succ, i64_w, i32_w]
              rfl
            refine one_ (i := 3) (N := some 24) #[true, true, true, true, true, true, true, false, false, false] rfl rfl (one_of HT_.out (by kernel_rfl)) (by decide) (fun K hK => ?_)
            refine goesT_ Try.func107 (by kernel_rfl) rfl #[.agg #[.int .i64 ((rd_T99 s0_1 x17_1).f0.f0), .int .i64 ((rd_T99 s0_1 x17_1).f0.f1), .int .i64 ((rd_T99 s0_1 x17_1).f0.f2), .int .i64 ((rd_T99 s0_1 x17_1).f0.f3), .int .i64 ((rd_T99 s0_1 x17_1).f0.f4), .int .i64 ((rd_T99 s0_1 x17_1).f0.f5), .int .i64 ((rd_T99 s0_1 x17_1).f1), .bool ((rd_T99 s0_1 x17_1).f2), .int .i64 ((rd_T99 s0_1 x17_1).f3)]] (by rfl) rfl rfl rfl (by (try simp only [List.map_toArray, List.map_cons, List.map_nil]); first | done | rfl | (simp only [List.length_drop, List.length_take]; rfl)) ?_
            with_reducible refine (flex_row_now_fn1.calls ((rd_T99 s0_1 x17_1).f0.f0) ((rd_T99 s0_1 x17_1).f0.f1) ((rd_T99 s0_1 x17_1).f0.f2) ((rd_T99 s0_1 x17_1).f0.f3) ((rd_T99 s0_1 x17_1).f0.f4) ((rd_T99 s0_1 x17_1).f0.f5) ((rd_T99 s0_1 x17_1).f1) ((rd_T99 s0_1 x17_1).f2) ((rd_T99 s0_1 x17_1).f3) t124 _ A6.out).mono ?_
            rintro e w13 ⟨rfl, hb⟩
            refine ⟨_, rfl, ?_⟩
            have n0_ := Aside0.mk (IsS96.below (by repeat (first | (with_reducible first | exact HI0.out | apply IsS96.alloc | apply IsS96.drewN | apply IsS96.drew | apply IsS96.set_0 | apply IsS96.set_2 | refine IsS96.far ?_ NB0_123.out _) | exact HI0.out)) hb)
            have n1_ := Aside0.mk (blk_below (g := gb123) (o := .cells #[.int .i64 ((rd_T99 s0_1 x17_1).f0.f0), .int .i64 ((rd_T99 s0_1 x17_1).f0.f1), .int .i64 ((rd_T99 s0_1 x17_1).f0.f2), .int .i64 ((rd_T99 s0_1 x17_1).f0.f3), .int .i64 ((rd_T99 s0_1 x17_1).f0.f4), .int .i64 ((rd_T99 s0_1 x17_1).f0.f5), .int .i64 ((rd_T99 s0_1 x17_1).f1), .bool ((rd_T99 s0_1 x17_1).f2), .int .i64 ((rd_T99 s0_1 x17_1).f3)] 99 (0, 0)) (by (with_reducible repeat (first | refine blk_drewN ?_ _ | refine blk_drew ?_ | refine blk_alloc ?_ _)); exact BK123.out) hb)
            have n2_ := Aside0.mk (KeepBut.trans (by repeat (first | (with_reducible first | exact HK.out | apply KeepBut.set_ | apply keep_drewN | apply keep_drew | apply keep_alloc | refine keep_far ?_ GW123.out _) | exact HK.out)) (KeepBut.of_below hb g none) (.inl rfl))
            have n3_ := Aside0.mk (below_step (by repeat (first | (with_reducible first | exact HB.out | apply below_alloc | apply pw_below_drewN | apply below_drew1 | refine below_set ?_ (IsS96.ge HI0.out) | refine below_set ?_ GE123.out) | exact HB.out)) hb)
            clear HI0
            clear BK123
            clear HK
            clear HB
            have HI0 := n0_
            have BK123 := n1_
            have HK := n2_
            have HB := n3_
            clear n0_ n1_ n2_ n3_
            (try clear hb)
            (try clear hb2)
            (try clear hk)
            (try clear hi)
            refine hK.out _ _ ⟨(blk_cell BK123.out 0).trans rfl, (blk_cell BK123.out 1).trans rfl, (blk_cell BK123.out 2).trans rfl, (blk_cell BK123.out 3).trans rfl, (blk_cell BK123.out 4).trans rfl, (blk_cell BK123.out 5).trans rfl, (blk_cell BK123.out 6).trans rfl, (blk_cell BK123.out 7).trans rfl, (blk_cell BK123.out 8).trans rfl⟩ (fun hHeld => ?_)
            clear hK K
            refine norm_ (a' := ?_) ?_ ?_
            rotate_left
            · show Act.put _ (some 24) _ = _
              simp only [Act.put, List.setIfInBounds_toArray, List.set_cons_zero, List.set_cons_succ, i64_w, i32_w]
              rfl
            refine pure_ (i := 7) (N := some 28) (v := ?_) (a' := ?_) #[true, true, true, true, true, true, true, true, false, false] rfl rfl (any_of HT_.out (by kernel_rfl)) (fun _ _ _ h => h) (Or.inl ⟨by rfl, ?_⟩) ?_ ?_
            rotate_left
            · intro w'
              go_simp
              with_reducible rfl
            rotate_left
            · simp only [Act.put, List.setIfInBounds_toArray, List.set_cons_zero, List.set_cons_succ, i64_w, i32_w]
              rfl
            refine pure_ (i := 8) (N := some 29) (v := ?_) (a' := ?_) #[true, true, true, true, true, true, true, true, true, false] rfl rfl (any_of HT_.out (by kernel_rfl)) (fun _ _ _ h => h) (Or.inl ⟨by rfl, ?_⟩) ?_ ?_
            rotate_left
            · intro w'
              go_simp
              with_reducible rfl
            rotate_left
            · simp only [Act.put, List.setIfInBounds_toArray, List.set_cons_zero, List.set_cons_succ, i64_w, i32_w]
              rfl
            refine pure_ (i := 9) (N := some 5) (v := ?_) (a' := ?_) #[true, true, true, true, true, true, true, true, true, true] rfl rfl (any_of HT_.out (by kernel_rfl)) (fun _ _ _ h => h) (Or.inl ⟨by rfl, ?_⟩) ?_ ?_
            rotate_left
            · intro w'
              go_simp
              with_reducible rfl
            rotate_left
            · simp only [Act.put, List.setIfInBounds_toArray, List.set_cons_zero, List.set_cons_succ, i64_w, i32_w]
              rfl
            refine done_ (done_of HT_.out (by kernel_rfl)) ?_
            try go_wp2
            go_roundg k1
            case measure => have := HK1.out; omega
            case rel => exact ⟨(wrap64 (x5_1 - (wrap64 (t124 + ((rd_T99 s0_1 x17_1).f0.f5))))), (wrap64 (x17_1 + 1)), (by first | rfl | (simp; done) | (simp [*]; done)), (by first | rfl | (simp; done) | (simp [*]; done)), H', ⟨by have := HK1.out; omega⟩, ⟨by repeat (first | (with_reducible first | exact HI0.out | apply IsS96.alloc | apply IsS96.drewN | apply IsS96.drew | apply IsS96.set_0 | apply IsS96.set_2 | refine IsS96.far ?_ NB0_123.out _) | exact HI0.out)⟩, ⟨by repeat (first | (with_reducible first | exact HK.out | apply KeepBut.set_ | apply keep_drewN | apply keep_drew | apply keep_alloc | refine keep_far ?_ GW123.out _) | exact HK.out)⟩, ⟨by repeat (first | (with_reducible first | exact HB.out | apply below_alloc | apply pw_below_drewN | apply below_drew1 | refine below_set ?_ (IsS96.ge HI0.out) | refine below_set ?_ GE123.out) | exact HB.out)⟩⟩
          · rw [if_neg c5] at H
            exact absurd H (by simp)
        · rw [if_neg c4] at H
          exact absurd H (by simp)
      · rw [if_neg c3] at H
        have c3b0 : decide (x17_1 < (s0_1.length : Int)) = false := decide_eq_false c3
        clear c3
        simp only [Option.some.injEq, Prod.mk.injEq] at H
        obtain ⟨rfl, rfl, rfl⟩ := H
        go_wp2
        go_ret
        exact ⟨by first | rfl | (simp [errW_none, errW_some] <;> rfl) | (simp [*, errW_none, errW_some] <;> rfl), by repeat (first | (with_reducible first | exact HI0.out | apply IsS96.alloc | apply IsS96.drewN | apply IsS96.drew | apply IsS96.set_0 | apply IsS96.set_2) | exact HI0.out), by repeat (first | (with_reducible first | exact HB.out | apply below_alloc | apply pw_below_drewN | apply below_drew1 | refine below_set ?_ (IsS96.ge HI0.out)) | exact HB.out), by repeat (first | (with_reducible first | exact HK.out | apply KeepBut.set_ | apply keep_drewN | apply keep_drew | apply keep_alloc) | exact HK.out)⟩

/-! ### flex_row_now: function 68 -/
def flex_row_now.f (k : Nat) (s0_0 : Int) (s0_1 : List (S99)) (s0_2 : Bool) : Option (Int × Int × Bool) := (flex_freeNow.f k s0_0 s0_1 s0_2).bind fun bt125 => (some (bt125.1, bt125.2.1, bt125.2.2))
theorem flex_row_now.mono : ∀ a0 a1 a2 k, LeO (flex_row_now.f k a0 a1 a2) (flex_row_now.f (k + 1) a0 a1 a2) := by
  intro a0 a1 a2 k
  unfold flex_row_now.f
  repeat' first
      | (with_reducible exact flex_freeNow.mono _ _ _ _)
      | (with_reducible exact LeO.refl _)
      | (with_reducible exact LeO.none _)
      | (with_reducible refine LeO.ite ?_ ?_)
      | (with_reducible refine LeO.bind ?_ (fun _ => ?_))
      | exact flex_freeNow.mono _ _ _ _
      | exact LeO.none _
      | refine LeO.ite ?_ ?_
      | refine LeO.bind ?_ (fun _ => ?_)
set_option maxHeartbeats 8000000 in
set_option maxRecDepth 100000 in
theorem flex_row_now.calls (k : Nat) (g : Nat) (s0_0 : Int) (s0_1 : List (S99)) (s0_2 : Bool) (r1 : Int) (r2 : Int) (r3 : Bool) (w0 w : World) (hI : IsS96 hA_ hc_ w0 w g s0_0 s0_1 s0_2) (hB : Below w0.heap.size w0 w) (h : flex_row_now.f k s0_0 s0_1 s0_2 = some (r1, r2, r3)) :
    Calls Try.prog 68 #[.pointer (some ⟨g, 0, none⟩)] w fun e w' => e = .returned (.int .i64 r1) ∧ IsS96 hA_ hc_ w0 w' g r2 s0_1 r3 ∧ Below w0.heap.size w0 w' ∧ KeepBut w w' g none := by
  have HI0 := Aside0.mk hI
  have HK := Aside0.mk (KeepBut.refl w g none)
  have HL := Aside0.mk hB.size
  clear hI
  have HW0 := Aside0.mk hB.size
  have HB := Aside0.mk hB
  clear hB
  have H : ((flex_freeNow.f k s0_0 s0_1 s0_2).bind fun bt125 => (some (bt125.1, bt125.2.1, bt125.2.2))) = some (r1, r2, r3) := h
  clear h
  replace H := Option.bind_eq_some_iff.mp H
  obtain ⟨⟨t125, t126, t127⟩, A20, H⟩ := H
  replace H : (some (t125, t126, t127)) = some (r1, r2, r3) := H
  have A2 := Aside0.mk A20
  clear A20
  simp only [Option.some.injEq, Prod.mk.injEq] at H
  obtain ⟨rfl, rfl, rfl⟩ := H
  go_enter Try.func68, Try.ntmps68
  go_wp2_with (first | ((with_reducible refine gate_callee (f := 65) rfl ?_); refine goesL_ (some 4) rfl rfl Try.func65 (by kernel_rfl) rfl #[.pointer (some ⟨g, 0, none⟩), .func (.func 107) #[] #[]] rfl (by (try simp only [List.map_toArray, List.map_cons, List.map_nil]); first | done | rfl | (simp only [List.length_drop, List.length_take]; rfl)) ?_; (with_reducible refine (flex_freeNow.calls (hA_ := hA_) (hc_ := hc_) k g s0_0 s0_1 s0_2 t125 t126 t127 w0 _ ?side1 ?side2 A2.out).mono ?_); (case side1 => repeat (first | (with_reducible first | exact HI0.out | apply IsS96.alloc | apply IsS96.drewN | apply IsS96.drew | apply IsS96.set_0 | apply IsS96.set_2) | exact HI0.out)); (case side2 => repeat (first | (with_reducible first | exact HB.out | apply below_alloc | apply pw_below_drewN | apply below_drew1 | refine below_set ?_ (IsS96.ge HI0.out)) | exact HB.out)); rintro e w3 ⟨rfl, hi, hb, hk⟩; refine ⟨_, rfl, ?_⟩; have n0_ := Aside0.mk (KeepBut.trans (by repeat (first | (with_reducible first | exact HK.out | apply KeepBut.set_ | apply keep_drewN | apply keep_drew | apply keep_alloc) | exact HK.out)) hk (.inl rfl)); have n1_ := Aside0.mk (hb); have n2_ := Aside0.mk (hi); clear HK; clear HB; clear HI0; have HK := n0_; have HB := n1_; have HI0 := n2_; clear n0_ n1_ n2_; (try clear hb); (try clear hb2); (try clear hk); (try clear hi)))
  go_ret
  exact ⟨by first | rfl | (simp [errW_none, errW_some] <;> rfl) | (simp [*, errW_none, errW_some] <;> rfl), by repeat (first | (with_reducible first | exact HI0.out | apply IsS96.alloc | apply IsS96.drewN | apply IsS96.drew | apply IsS96.set_0 | apply IsS96.set_2) | exact HI0.out), by repeat (first | (with_reducible first | exact HB.out | apply below_alloc | apply pw_below_drewN | apply below_drew1 | refine below_set ?_ (IsS96.ge HI0.out)) | exact HB.out), by repeat (first | (with_reducible first | exact HK.out | apply KeepBut.set_ | apply keep_drewN | apply keep_drew | apply keep_alloc) | exact HK.out)⟩

/-! ### fix_floor: function 102 -/
def fix_floor.f (a0 : Int) (a1 : Int) : Option (Int) := if a1 = 0 then (none) else (if (Int.tmod a0 a1) = 0 then (some (wrap64 (Int.tdiv a0 a1))) else (if ((decide (a0 < 0)) != (decide (a1 < 0))) = true then (some (wrap64 ((wrap64 (Int.tdiv a0 a1)) - 1))) else (some (wrap64 (Int.tdiv a0 a1)))))
set_option maxHeartbeats 8000000 in
set_option maxRecDepth 100000 in
theorem fix_floor.calls (a0 : Int) (a1 : Int) (r : Int) (w : World) (h : fix_floor.f a0 a1 = some r) :
    Calls Try.prog 102 #[.int .i64 a0, .int .i64 a1] w fun e w' => e = .returned (.int .i64 r) ∧ Drawn0 w w' := by
  have H : (if a1 = 0 then (none) else (if (Int.tmod a0 a1) = 0 then (some (wrap64 (Int.tdiv a0 a1))) else (if ((decide (a0 < 0)) != (decide (a1 < 0))) = true then (some (wrap64 ((wrap64 (Int.tdiv a0 a1)) - 1))) else (some (wrap64 (Int.tdiv a0 a1)))))) = some r := h
  clear h
  by_cases c3 : a1 = 0
  · rw [if_pos c3] at H
    exact absurd H (by simp)
  · rw [if_neg c3] at H
    have c3b0 : (a1 == 0) = false := beq_eq_false_iff_ne.mpr c3
    have c3b1 : (a1 != 0) = true := bne_iff_ne.mpr c3
    by_cases c4 : (Int.tmod a0 a1) = 0
    · rw [if_pos c4] at H
      have c4b0 : ((Int.tmod a0 a1) == 0) = true := beq_iff_eq.mpr c4
      have c4b1 : ((Int.tmod a0 a1) != 0) = false := bne_eq_false_iff_eq.mpr c4
      clear c4
      obtain rfl := Option.some.inj H
      go_enter Try.func102, Try.ntmps102
      go_wp2
      go_ret
      exact ⟨by first | rfl | (simp; done) | (simp [*]; done), by repeat (first | exact Drawn0.refl _ | apply Drawn0.step)⟩
    · rw [if_neg c4] at H
      have c4b0 : ((Int.tmod a0 a1) == 0) = false := beq_eq_false_iff_ne.mpr c4
      have c4b1 : ((Int.tmod a0 a1) != 0) = true := bne_iff_ne.mpr c4
      by_cases c5 : ((decide (a0 < 0)) != (decide (a1 < 0))) = true
      · rw [if_pos c5] at H
        have c5b0 : ((decide (a0 < 0)) != (decide (a1 < 0))) = true := c5
        (try (have c5b1 : decide ((decide (a0 < 0)) = (decide (a1 < 0))) = false := by simpa using c5))
        (try (have c5b2 : ((decide (a0 < 0)) == (decide (a1 < 0))) = false := by simpa using c5))
        (try (have c5b3 : ¬ ((decide (a0 < 0)) = (decide (a1 < 0))) := by simpa using c5))
        clear c5
        obtain rfl := Option.some.inj H
        go_enter Try.func102, Try.ntmps102
        go_wp2
        go_ret
        exact ⟨by first | rfl | (simp; done) | (simp [*]; done), by repeat (first | exact Drawn0.refl _ | apply Drawn0.step)⟩
      · rw [if_neg c5] at H
        have c5b0 : ((decide (a0 < 0)) != (decide (a1 < 0))) = false := by simpa using c5
        (try (have c5b1 : decide ((decide (a0 < 0)) = (decide (a1 < 0))) = true := by simpa using c5))
        (try (have c5b2 : ((decide (a0 < 0)) == (decide (a1 < 0))) = true := by simpa using c5))
        clear c5
        obtain rfl := Option.some.inj H
        go_enter Try.func102, Try.ntmps102
        go_wp2
        go_ret
        exact ⟨by first | rfl | (simp; done) | (simp [*]; done), by repeat (first | exact Drawn0.refl _ | apply Drawn0.step)⟩

/-! ### fix_Part: function 54 -/
def fix_Part.f (a0 : Int) (a1 : Int) (a2 : Int) : Option (Int) := (fix_Cut.f a0).bind fun t128 => ((fix_Cut.f a1).bind fun t129 => ((fix_Cut.f a2).bind fun t130 => (if t130 = 0 then (some 0) else ((fix_floor.f (wrap64 (t128 * t129)) t130).bind fun t131 => ((fix_Cut.f t131).bind fun t132 => (some t132))))))
set_option maxHeartbeats 8000000 in
set_option maxRecDepth 100000 in
theorem fix_Part.calls (a0 : Int) (a1 : Int) (a2 : Int) (r : Int) (w : World) (h : fix_Part.f a0 a1 a2 = some r) :
    Calls Try.prog 54 #[.int .i64 a0, .int .i64 a1, .int .i64 a2] w fun e w' => e = .returned (.int .i64 r) ∧ Below w.heap.size w w' := by
  have HB := Aside0.mk (Below.refl w.heap.size w)
  have H : ((fix_Cut.f a0).bind fun t128 => ((fix_Cut.f a1).bind fun t129 => ((fix_Cut.f a2).bind fun t130 => (if t130 = 0 then (some 0) else ((fix_floor.f (wrap64 (t128 * t129)) t130).bind fun t131 => ((fix_Cut.f t131).bind fun t132 => (some t132))))))) = some r := h
  clear h
  replace H := Option.bind_eq_some_iff.mp H
  obtain ⟨t128, A40, H⟩ := H
  replace H : ((fix_Cut.f a1).bind fun t129 => ((fix_Cut.f a2).bind fun t130 => (if t130 = 0 then (some 0) else ((fix_floor.f (wrap64 (t128 * t129)) t130).bind fun t131 => ((fix_Cut.f t131).bind fun t132 => (some t132)))))) = some r := H
  have A4 := Aside0.mk A40
  clear A40
  replace H := Option.bind_eq_some_iff.mp H
  obtain ⟨t129, A50, H⟩ := H
  replace H : ((fix_Cut.f a2).bind fun t130 => (if t130 = 0 then (some 0) else ((fix_floor.f (wrap64 (t128 * t129)) t130).bind fun t131 => ((fix_Cut.f t131).bind fun t132 => (some t132))))) = some r := H
  have A5 := Aside0.mk A50
  clear A50
  replace H := Option.bind_eq_some_iff.mp H
  obtain ⟨t130, A60, H⟩ := H
  replace H : (if t130 = 0 then (some 0) else ((fix_floor.f (wrap64 (t128 * t129)) t130).bind fun t131 => ((fix_Cut.f t131).bind fun t132 => (some t132)))) = some r := H
  have A6 := Aside0.mk A60
  clear A60
  by_cases c7 : t130 = 0
  · rw [if_pos c7] at H
    have c7b0 : (t130 == 0) = true := beq_iff_eq.mpr c7
    have c7b1 : (t130 != 0) = false := bne_eq_false_iff_eq.mpr c7
    clear c7
    obtain rfl := Option.some.inj H
    go_enter Try.func54, Try.ntmps54
    go_wp2_with (first | ((with_reducible refine gate_callee (f := 51) rfl ?_); refine goesL_ (some 8) rfl rfl Try.func51 (by kernel_rfl) rfl #[.int .i64 a0] rfl (by (try simp only [List.map_toArray, List.map_cons, List.map_nil]); first | done | rfl | (simp only [List.length_drop, List.length_take]; rfl)) ?_; (with_reducible refine (fix_Cut.calls a0 t128 _ A4.out).mono ?_); rintro e w8 ⟨rfl, hb⟩; refine ⟨_, rfl, ?_⟩; have n0_ := Aside0.mk (below_step (by repeat (first | (with_reducible first | exact HB.out | apply below_alloc | apply pw_below_drewN | apply below_drew1) | exact HB.out)) hb); clear HB; have HB := n0_; clear n0_; (try clear hb); (try clear hb2); (try clear hk); (try clear hi)) | ((with_reducible refine gate_callee (f := 51) rfl ?_); refine goesL_ (some 10) rfl rfl Try.func51 (by kernel_rfl) rfl #[.int .i64 a1] rfl (by (try simp only [List.map_toArray, List.map_cons, List.map_nil]); first | done | rfl | (simp only [List.length_drop, List.length_take]; rfl)) ?_; (with_reducible refine (fix_Cut.calls a1 t129 _ A5.out).mono ?_); rintro e w9 ⟨rfl, hb⟩; refine ⟨_, rfl, ?_⟩; have n0_ := Aside0.mk (below_step (by repeat (first | (with_reducible first | exact HB.out | apply below_alloc | apply pw_below_drewN | apply below_drew1) | exact HB.out)) hb); clear HB; have HB := n0_; clear n0_; (try clear hb); (try clear hb2); (try clear hk); (try clear hi)) | ((with_reducible refine gate_callee (f := 51) rfl ?_); refine goesL_ (some 12) rfl rfl Try.func51 (by kernel_rfl) rfl #[.int .i64 a2] rfl (by (try simp only [List.map_toArray, List.map_cons, List.map_nil]); first | done | rfl | (simp only [List.length_drop, List.length_take]; rfl)) ?_; (with_reducible refine (fix_Cut.calls a2 t130 _ A6.out).mono ?_); rintro e w10 ⟨rfl, hb⟩; refine ⟨_, rfl, ?_⟩; have n0_ := Aside0.mk (below_step (by repeat (first | (with_reducible first | exact HB.out | apply below_alloc | apply pw_below_drewN | apply below_drew1) | exact HB.out)) hb); clear HB; have HB := n0_; clear n0_; (try clear hb); (try clear hb2); (try clear hk); (try clear hi)))
    go_ret
    exact ⟨by first | rfl | (simp [errW_none, errW_some] <;> rfl) | (simp [*, errW_none, errW_some] <;> rfl), by repeat (first | (with_reducible first | exact HB.out | apply below_alloc | apply pw_below_drewN | apply below_drew1) | exact HB.out)⟩
  · rw [if_neg c7] at H
    have c7b0 : (t130 == 0) = false := beq_eq_false_iff_ne.mpr c7
    have c7b1 : (t130 != 0) = true := bne_iff_ne.mpr c7
    replace H := Option.bind_eq_some_iff.mp H
    obtain ⟨t131, A110, H⟩ := H
    replace H : ((fix_Cut.f t131).bind fun t132 => (some t132)) = some r := H
    have A11 := Aside0.mk A110
    clear A110
    replace H := Option.bind_eq_some_iff.mp H
    obtain ⟨t132, A120, H⟩ := H
    replace H : (some t132) = some r := H
    have A12 := Aside0.mk A120
    clear A120
    obtain rfl := Option.some.inj H
    go_enter Try.func54, Try.ntmps54
    go_wp2_with (first | ((with_reducible refine gate_callee (f := 51) rfl ?_); refine goesL_ (some 8) rfl rfl Try.func51 (by kernel_rfl) rfl #[.int .i64 a0] rfl (by (try simp only [List.map_toArray, List.map_cons, List.map_nil]); first | done | rfl | (simp only [List.length_drop, List.length_take]; rfl)) ?_; (with_reducible refine (fix_Cut.calls a0 t128 _ A4.out).mono ?_); rintro e w13 ⟨rfl, hb⟩; refine ⟨_, rfl, ?_⟩; have n0_ := Aside0.mk (below_step (by repeat (first | (with_reducible first | exact HB.out | apply below_alloc | apply pw_below_drewN | apply below_drew1) | exact HB.out)) hb); clear HB; have HB := n0_; clear n0_; (try clear hb); (try clear hb2); (try clear hk); (try clear hi)) | ((with_reducible refine gate_callee (f := 51) rfl ?_); refine goesL_ (some 10) rfl rfl Try.func51 (by kernel_rfl) rfl #[.int .i64 a1] rfl (by (try simp only [List.map_toArray, List.map_cons, List.map_nil]); first | done | rfl | (simp only [List.length_drop, List.length_take]; rfl)) ?_; (with_reducible refine (fix_Cut.calls a1 t129 _ A5.out).mono ?_); rintro e w14 ⟨rfl, hb⟩; refine ⟨_, rfl, ?_⟩; have n0_ := Aside0.mk (below_step (by repeat (first | (with_reducible first | exact HB.out | apply below_alloc | apply pw_below_drewN | apply below_drew1) | exact HB.out)) hb); clear HB; have HB := n0_; clear n0_; (try clear hb); (try clear hb2); (try clear hk); (try clear hi)) | ((with_reducible refine gate_callee (f := 51) rfl ?_); refine goesL_ (some 12) rfl rfl Try.func51 (by kernel_rfl) rfl #[.int .i64 a2] rfl (by (try simp only [List.map_toArray, List.map_cons, List.map_nil]); first | done | rfl | (simp only [List.length_drop, List.length_take]; rfl)) ?_; (with_reducible refine (fix_Cut.calls a2 t130 _ A6.out).mono ?_); rintro e w15 ⟨rfl, hb⟩; refine ⟨_, rfl, ?_⟩; have n0_ := Aside0.mk (below_step (by repeat (first | (with_reducible first | exact HB.out | apply below_alloc | apply pw_below_drewN | apply below_drew1) | exact HB.out)) hb); clear HB; have HB := n0_; clear n0_; (try clear hb); (try clear hb2); (try clear hk); (try clear hi)) | ((with_reducible refine gate_callee (f := 102) rfl ?_); refine goesL_ (some 19) rfl rfl Try.func102 (by kernel_rfl) rfl #[.int .i64 (wrap64 (t128 * t129)), .int .i64 t130] rfl (by (try simp only [List.map_toArray, List.map_cons, List.map_nil]); first | done | rfl | (simp only [List.length_drop, List.length_take]; rfl)) ?_; (with_reducible refine (fix_floor.calls (wrap64 (t128 * t129)) t130 t131 _ A11.out).mono ?_); rintro e w' ⟨rfl, ⟨nd, rfl⟩⟩; refine ⟨_, rfl, ?_⟩) | ((with_reducible refine gate_callee (f := 51) rfl ?_); refine goesL_ (some 20) rfl rfl Try.func51 (by kernel_rfl) rfl #[.int .i64 t131] rfl (by (try simp only [List.map_toArray, List.map_cons, List.map_nil]); first | done | rfl | (simp only [List.length_drop, List.length_take]; rfl)) ?_; (with_reducible refine (fix_Cut.calls t131 t132 _ A12.out).mono ?_); rintro e w16 ⟨rfl, hb⟩; refine ⟨_, rfl, ?_⟩; have n0_ := Aside0.mk (below_step (by repeat (first | (with_reducible first | exact HB.out | apply below_alloc | apply pw_below_drewN | apply below_drew1) | exact HB.out)) hb); clear HB; have HB := n0_; clear n0_; (try clear hb); (try clear hb2); (try clear hk); (try clear hi)))
    go_ret
    exact ⟨by first | rfl | (simp [errW_none, errW_some] <;> rfl) | (simp [*, errW_none, errW_some] <;> rfl), by repeat (first | (with_reducible first | exact HB.out | apply below_alloc | apply pw_below_drewN | apply below_drew1) | exact HB.out)⟩

/-! ### flex_near: function 109 -/
def flex_near.f (a0 : Int) (a1 : Int) : Option (Int) := if (mx a1 (wrap64 (-a1))) < (mx a0 (wrap64 (-a0))) then (some a1) else (some a0)
set_option maxHeartbeats 8000000 in
set_option maxRecDepth 100000 in
theorem flex_near.calls (a0 : Int) (a1 : Int) (r : Int) (w : World) (h : flex_near.f a0 a1 = some r) :
    Calls Try.prog 109 #[.int .i64 a0, .int .i64 a1] w fun e w' => e = .returned (.int .i64 r) ∧ Below w.heap.size w w' := by
  have HB := Aside0.mk (Below.refl w.heap.size w)
  have H : (if (mx a1 (wrap64 (-a1))) < (mx a0 (wrap64 (-a0))) then (some a1) else (some a0)) = some r := h
  clear h
  obtain ⟨ji3, hji3⟩ : ∃ j_ : Int, (mx a1 (wrap64 (-a1))) = j_ := ⟨_, rfl⟩
  replace H : (if (ji3) < (mx a0 (wrap64 (-a0))) then (some a1) else (some a0)) = some r := by first | (rw [hji3] at H; exact H) | (simp only [hji3] at H ⊢; exact H)
  have hji3_ : (if a1 < (wrap64 (-a1)) then (wrap64 (-a1)) else a1) = ji3 := hji3
  obtain ⟨ji4, hji4⟩ : ∃ j_ : Int, (mx a0 (wrap64 (-a0))) = j_ := ⟨_, rfl⟩
  replace H : (if (ji3) < (ji4) then (some a1) else (some a0)) = some r := by first | (rw [hji4] at H; exact H) | (simp only [hji4] at H ⊢; exact H)
  have hji4_ : (if a0 < (wrap64 (-a0)) then (wrap64 (-a0)) else a0) = ji4 := hji4
  by_cases c5 : (ji3) < (ji4)
  · rw [if_pos c5] at H
    have c5b0 : decide ((ji3) < (ji4)) = true := decide_eq_true c5
    clear c5
    obtain rfl := Option.some.inj H
    go_enter Try.func109, Try.ntmps109
    go_wp2
    go_ret
    exact ⟨by first | rfl | (simp [errW_none, errW_some] <;> rfl) | (simp only [← hji3, ← hji4]; first | rfl | (simp [errW_none, errW_some] <;> rfl)) | (simp [*, errW_none, errW_some] <;> rfl), by repeat (first | (with_reducible first | exact HB.out | apply below_alloc | apply pw_below_drewN | apply below_drew1) | exact HB.out)⟩
  · rw [if_neg c5] at H
    have c5b0 : decide ((ji3) < (ji4)) = false := decide_eq_false c5
    clear c5
    obtain rfl := Option.some.inj H
    go_enter Try.func109, Try.ntmps109
    go_wp2
    go_ret
    exact ⟨by first | rfl | (simp [errW_none, errW_some] <;> rfl) | (simp only [← hji3, ← hji4]; first | rfl | (simp [errW_none, errW_some] <;> rfl)) | (simp [*, errW_none, errW_some] <;> rfl), by repeat (first | (with_reducible first | exact HB.out | apply below_alloc | apply pw_below_drewN | apply below_drew1) | exact HB.out)⟩

/-! ### fix_share: function 113 -/
def fix_share.f (a0 : Int) (a1 : Int) (a2 : Int) : Option (Int) := (fix_floor.f (wrap64 (a0 * a1)) a2).bind fun t133 => (some t133)
set_option maxHeartbeats 8000000 in
set_option maxRecDepth 100000 in
theorem fix_share.calls (a0 : Int) (a1 : Int) (a2 : Int) (r : Int) (w : World) (h : fix_share.f a0 a1 a2 = some r) :
    Calls Try.prog 113 #[.int .i64 a0, .int .i64 a1, .int .i64 a2] w fun e w' => e = .returned (.int .i64 r) ∧ Drawn0 w w' := by
  have H : ((fix_floor.f (wrap64 (a0 * a1)) a2).bind fun t133 => (some t133)) = some r := h
  clear h
  replace H := Option.bind_eq_some_iff.mp H
  obtain ⟨t133, A40, H⟩ := H
  replace H : (some t133) = some r := H
  have A4 := Aside0.mk A40
  clear A40
  obtain rfl := Option.some.inj H
  go_enter Try.func113, Try.ntmps113
  go_wp2_with (first | ((with_reducible refine gate_callee (f := 102) rfl ?_); refine goesL_ (some 11) rfl rfl Try.func102 (by kernel_rfl) rfl #[.int .i64 (wrap64 (a0 * a1)), .int .i64 a2] rfl (by (try simp only [List.map_toArray, List.map_cons, List.map_nil]); first | done | rfl | (simp only [List.length_drop, List.length_take]; rfl)) ?_; (with_reducible refine (fix_floor.calls (wrap64 (a0 * a1)) a2 t133 _ A4.out).mono ?_); rintro e w' ⟨rfl, ⟨nd, rfl⟩⟩; refine ⟨_, rfl, ?_⟩))
  go_ret
  exact ⟨by first | rfl | (simp; done) | (simp [*]; done), by repeat (first | exact Drawn0.refl _ | apply Drawn0.step)⟩

end Go.Proofs.Ytaejmgdpnnhpmaa.QFlex
