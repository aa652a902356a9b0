/- breaks.wide and its closure, walked by hand. -/
import Derived.Test.YtdmkofbndeicfaaQBreaksx0
namespace Go.Proofs.Ytdmkofbndeicfaa.QBreaks
open Go.RowKit Go.Proofs.YtdmkofbndeicfaaW.PrintWords Go.Proofs.YtdmkofbndeicfaaW.PrintLast Go.Proofs.YtdmkofbndeicfaaW.PrintMore
set_option linter.unusedVariables false
set_option linter.unusedSimpArgs false
def oth (r : Int) : Bool := if r = 32 then false else if r = 45 then false else if r = 10 then false else true
set_option maxHeartbeats 1000000 in
set_option maxRecDepth 100000 in
theorem breaks_wide_1.calls (a0 : Int) (w : World) : Calls Try.prog 80 #[.int .i32 a0] w fun e w' => e = .returned (.bool (oth a0)) ∧ Below w.heap.size w w' := by
  have HB := Aside0.mk (Below.refl w.heap.size w)
  unfold oth
  by_cases c1 : a0 = 32
  · subst c1
    go_enter Try.func80, Try.ntmps80
    go_wp2
    go_ret
    exact ⟨rfl, HB.out⟩
  · have c1b : (a0 != 32) = true := bne_iff_ne.mpr c1
    rw [if_neg c1]
    clear c1
    by_cases c2 : a0 = 45
    · subst c2
      go_enter Try.func80, Try.ntmps80
      go_wp2
      go_ret
      exact ⟨rfl, HB.out⟩
    · have c2b : (a0 != 45) = true := bne_iff_ne.mpr c2
      rw [if_neg c2]
      clear c2
      by_cases c3 : a0 = 10
      · subst c3
        go_enter Try.func80, Try.ntmps80
        go_wp2
        go_ret
        exact ⟨rfl, HB.out⟩
      · have c3b : (a0 != 10) = true := bne_iff_ne.mpr c3
        rw [if_neg c3]
        clear c3
        go_enter Try.func80, Try.ntmps80
        go_wp2
        go_ret
        exact ⟨rfl, HB.out⟩
def wid (a0 a1 : Int) : Bool := if a0 ≥ 4352 ∧ oth a1 = true then true else if a1 ≥ 4352 then oth a0 else false
def breaks_wide.f (a0 a1 : Int) : Option (Bool) := some (wid a0 a1)
set_option maxHeartbeats 1000000 in
set_option maxRecDepth 100000 in
theorem breaks_wide.calls (a0 a1 : Int) (r : Bool) (w : World) (h : breaks_wide.f a0 a1 = some r) :
    Calls Try.prog 77 #[.int .i32 a0, .int .i32 a1] w fun e w' => e = .returned (.bool r) ∧ Below w.heap.size w w' := by
  obtain rfl := Option.some.inj h
  clear h
  have HB := Aside0.mk (Below.refl w.heap.size w)
  unfold wid
  obtain ⟨o0, h0⟩ : ∃ o, oth a0 = o := ⟨_, rfl⟩
  obtain ⟨o1, h1⟩ : ∃ o, oth a1 = o := ⟨_, rfl⟩
  have C0 : ∀ w, Calls Try.prog 80 #[.int .i32 a0] w fun e w' => e = .returned (.bool o0) ∧ Below w.heap.size w w' := fun w => h0 ▸ breaks_wide_1.calls a0 w
  have C1 : ∀ w, Calls Try.prog 80 #[.int .i32 a1] w fun e w' => e = .returned (.bool o1) ∧ Below w.heap.size w w' := fun w => h1 ▸ breaks_wide_1.calls a1 w
  rw [h0, h1]
  clear h0 h1
  have HC0 := Aside0.mk C0
  have HC1 := Aside0.mk C1
  clear C0 C1
  by_cases c1 : a0 ≥ 4352
  · have c1b : decide (4352 ≤ a0) = true := decide_eq_true c1
    by_cases c2 : a1 ≥ 4352
    · have c2b : decide (4352 ≤ a1) = true := decide_eq_true c2
      cases o1 <;> cases o0 <;> simp only [c1, c2, if_true, if_false, true_and, false_and, Bool.false_eq_true] <;> clear c1 c2
      all_goals
        go_enter Try.func77, Try.ntmps77
        go_wp2_with (go_at_call 80; (first | (with_reducible refine (HC1.out _).mono ?_) | (with_reducible refine (HC0.out _).mono ?_)); rintro e w1 ⟨rfl, hb⟩; have HB1 := Aside0.mk (below_step HB.out hb); clear HB; have HB := HB1; clear HB1 hb)
        go_ret
        exact ⟨rfl, HB.out⟩
    · have c2b : decide (4352 ≤ a1) = false := decide_eq_false c2
      cases o1 <;> simp only [c1, c2, if_true, if_false, true_and, false_and, Bool.false_eq_true] <;> clear c1 c2
      all_goals
        go_enter Try.func77, Try.ntmps77
        go_wp2_with (go_at_call 80; (first | (with_reducible refine (HC1.out _).mono ?_) | (with_reducible refine (HC0.out _).mono ?_)); rintro e w1 ⟨rfl, hb⟩; have HB1 := Aside0.mk (below_step HB.out hb); clear HB; have HB := HB1; clear HB1 hb)
        go_ret
        exact ⟨rfl, HB.out⟩
  · have c1b : decide (4352 ≤ a0) = false := decide_eq_false c1
    by_cases c2 : a1 ≥ 4352
    · have c2b : decide (4352 ≤ a1) = true := decide_eq_true c2
      cases o0 <;> simp only [c1, c2, if_true, if_false, true_and, false_and, Bool.false_eq_true] <;> clear c1 c2
      all_goals
        go_enter Try.func77, Try.ntmps77
        go_wp2_with (go_at_call 80; (first | (with_reducible refine (HC1.out _).mono ?_) | (with_reducible refine (HC0.out _).mono ?_)); rintro e w1 ⟨rfl, hb⟩; have HB1 := Aside0.mk (below_step HB.out hb); clear HB; have HB := HB1; clear HB1 hb)
        go_ret
        exact ⟨rfl, HB.out⟩
    · have c2b : decide (4352 ≤ a1) = false := decide_eq_false c2
      simp only [c1, c2, if_true, if_false, true_and, false_and, Bool.false_eq_true]
      clear c1 c2
      go_enter Try.func77, Try.ntmps77
      go_wp2
      go_ret
      exact ⟨rfl, HB.out⟩
end Go.Proofs.Ytdmkofbndeicfaa.QBreaks
