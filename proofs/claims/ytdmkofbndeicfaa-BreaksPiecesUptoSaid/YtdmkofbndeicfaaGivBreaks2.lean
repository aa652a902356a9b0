/- breaks.isLetter and breaks.may, walked by hand. -/
import Derived.Test.YtdmkofbndeicfaaGivBreaks1
namespace Go.Proofs.Ytdmkofbndeicfaa.QBreaks
open Go.RowKit Go.Proofs.YtdmkofbndeicfaaW.PrintWords Go.Proofs.YtdmkofbndeicfaaW.PrintLast Go.Proofs.YtdmkofbndeicfaaW.PrintMore
set_option linter.unusedVariables false
set_option linter.unusedSimpArgs false
def let0 (r : Int) : Bool := if r ≥ 97 then (if r ≤ 122 then true else false) else if r ≥ 65 then (if r ≤ 90 then true else false) else false
set_option maxHeartbeats 1000000 in
set_option maxRecDepth 100000 in
theorem let_calls (f : Nat) (hf : f = 76 ∨ f = 66) (a0 : Int) (w : World) : Calls Try.prog f #[.int .i32 a0] w fun e w' => e = .returned (.bool (let0 a0)) ∧ Below w.heap.size w w' := by
  have HB := Aside0.mk (Below.refl w.heap.size w)
  unfold let0
  by_cases c1 : a0 ≥ 97
  · have c1b : decide (97 ≤ a0) = true := decide_eq_true c1
    have c3b : decide (65 ≤ a0) = true := decide_eq_true (by omega)
    rw [if_pos c1]
    by_cases c2 : a0 ≤ 122
    · have c2b : decide (a0 ≤ 122) = true := decide_eq_true c2
      rw [if_pos c2]
      clear c1 c2
      rcases hf with rfl | rfl
      · go_enter Try.func76, Try.ntmps76
        go_wp2
        go_ret
        exact ⟨rfl, HB.out⟩
      · go_enter Try.func66, Try.ntmps66
        go_wp2
        go_ret
        exact ⟨rfl, HB.out⟩
    · have c2b : decide (a0 ≤ 122) = false := decide_eq_false c2
      have c4b : decide (a0 ≤ 90) = false := decide_eq_false (by omega)
      rw [if_neg c2]
      clear c1 c2
      rcases hf with rfl | rfl
      · go_enter Try.func76, Try.ntmps76
        go_wp2
        go_ret
        exact ⟨rfl, HB.out⟩
      · go_enter Try.func66, Try.ntmps66
        go_wp2
        go_ret
        exact ⟨rfl, HB.out⟩
  · have c1b : decide (97 ≤ a0) = false := decide_eq_false c1
    rw [if_neg c1]
    by_cases c3 : a0 ≥ 65
    · have c3b : decide (65 ≤ a0) = true := decide_eq_true c3
      rw [if_pos c3]
      by_cases c4 : a0 ≤ 90
      · have c4b : decide (a0 ≤ 90) = true := decide_eq_true c4
        rw [if_pos c4]
        clear c1 c3 c4
        rcases hf with rfl | rfl
        · go_enter Try.func76, Try.ntmps76
          go_wp2
          go_ret
          exact ⟨rfl, HB.out⟩
        · go_enter Try.func66, Try.ntmps66
          go_wp2
          go_ret
          exact ⟨rfl, HB.out⟩
      · have c4b : decide (a0 ≤ 90) = false := decide_eq_false c4
        rw [if_neg c4]
        clear c1 c3 c4
        rcases hf with rfl | rfl
        · go_enter Try.func76, Try.ntmps76
          go_wp2
          go_ret
          exact ⟨rfl, HB.out⟩
        · go_enter Try.func66, Try.ntmps66
          go_wp2
          go_ret
          exact ⟨rfl, HB.out⟩
    · have c3b : decide (65 ≤ a0) = false := decide_eq_false c3
      rw [if_neg c3]
      clear c1 c3
      rcases hf with rfl | rfl
      · go_enter Try.func76, Try.ntmps76
        go_wp2
        go_ret
        exact ⟨rfl, HB.out⟩
      · go_enter Try.func66, Try.ntmps66
        go_wp2
        go_ret
        exact ⟨rfl, HB.out⟩
/-- The reference's 'plain': the same as 'other'. -/
theorem plain_calls (a0 : Int) (w : World) : Calls Try.prog 67 #[.int .i32 a0] w fun e w' => e = .returned (.bool (oth a0)) ∧ Below w.heap.size w w' := by
  have HB := Aside0.mk (Below.refl w.heap.size w)
  unfold oth
  by_cases c1 : a0 = 32
  · subst c1
    go_enter Try.func67, Try.ntmps67
    go_wp2
    go_ret
    exact ⟨rfl, HB.out⟩
  · have c1b : (a0 != 32) = true := bne_iff_ne.mpr c1
    rw [if_neg c1]
    clear c1
    by_cases c2 : a0 = 45
    · subst c2
      go_enter Try.func67, Try.ntmps67
      go_wp2
      go_ret
      exact ⟨rfl, HB.out⟩
    · have c2b : (a0 != 45) = true := bne_iff_ne.mpr c2
      rw [if_neg c2]
      clear c2
      by_cases c3 : a0 = 10
      · subst c3
        go_enter Try.func67, Try.ntmps67
        go_wp2
        go_ret
        exact ⟨rfl, HB.out⟩
      · have c3b : (a0 != 10) = true := bne_iff_ne.mpr c3
        rw [if_neg c3]
        clear c3
        go_enter Try.func67, Try.ntmps67
        go_wp2
        go_ret
        exact ⟨rfl, HB.out⟩
def mayB (a0 a1 : Int) : Bool := if a0 = 32 then a1 != 32 else if a0 = 45 then let0 a1 else wid a0 a1
set_option maxHeartbeats 1000000 in
set_option maxRecDepth 100000 in
theorem may_calls (a0 a1 : Int) (w : World) : Calls Try.prog 65 #[.int .i32 a0, .int .i32 a1] w fun e w' => e = .returned (.bool (mayB a0 a1)) ∧ Below w.heap.size w w' := by
  have HB := Aside0.mk (Below.refl w.heap.size w)
  unfold mayB
  by_cases c1 : a0 = 32
  · subst c1
    rw [if_pos rfl]
    go_enter Try.func65, Try.ntmps65
    go_wp2
    go_ret
    exact ⟨rfl, HB.out⟩
  · have c1b : (a0 == 32) = false := beq_eq_false_iff_ne.mpr c1
    rw [if_neg c1]
    clear c1
    by_cases c2 : a0 = 45
    · subst c2
      rw [if_pos rfl]
      go_enter Try.func65, Try.ntmps65
      go_wp2_with (go_at_call 76; (with_reducible refine (let_calls 76 (.inl rfl) a1 _).mono ?_); rintro e w1 ⟨rfl, hb⟩; have HB1 := Aside0.mk (below_step HB.out hb); clear hb)
      go_ret
      exact ⟨rfl, HB1.out⟩
    · have c2b : (a0 == 45) = false := beq_eq_false_iff_ne.mpr c2
      rw [if_neg c2]
      clear c2
      go_enter Try.func65, Try.ntmps65
      go_wp2_with (go_at_call 77; (with_reducible refine (breaks_wide.calls a0 a1 _ _ rfl).mono ?_); rintro e w1 ⟨rfl, hb⟩; have HB1 := Aside0.mk (below_step HB.out hb); clear hb)
      go_ret
      exact ⟨rfl, HB1.out⟩
end Go.Proofs.Ytdmkofbndeicfaa.QBreaks
