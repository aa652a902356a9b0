/- Printed by a turn of the kit's print over contracts proved by hand; facts added by a program of this session (patch_flat.py). -/
import Derived.Test.YtaejmgdpnnhpmaaQRasterFlatx0
namespace Go.Proofs.Ytaejmgdpnnhpmaa.QRasterFlat
open Go.RowKit Go.Proofs.YtaejmgdpnnhpmaaW.PrintWords Go.Proofs.YtaejmgdpnnhpmaaW.PrintLast Go.Proofs.YtaejmgdpnnhpmaaW.PrintMore
attribute [local go_sem] max2_int min2_int max_two min_two max_three min_three max_four min_four   -- for this text's walks alone
set_option linter.unusedVariables false
set_option linter.unusedSimpArgs false

/-! ### clerestoryref3_Cut: function 21 -/
def clerestoryref3_Cut.f (a0 : Int) : Option (Int) := if a0 > 16777216 then (some 16777216) else (if a0 < (-16777216) then (some (-16777216)) else (some a0))
set_option maxHeartbeats 8000000 in
set_option maxRecDepth 100000 in
theorem clerestoryref3_Cut.calls (a0 : Int) (r : Int) (w : World) (h : clerestoryref3_Cut.f a0 = some r) :
    Calls Try.prog 21 #[.int .i64 a0] w fun e w' => e = .returned (.int .i64 r) ∧ Drawn0 w w' := by
  have H : (if a0 > 16777216 then (some 16777216) else (if a0 < (-16777216) then (some (-16777216)) else (some a0))) = some r := h
  clear h
  by_cases c2 : a0 > 16777216
  · rw [if_pos c2] at H
    have c2b0 : decide (16777216 < a0) = true := decide_eq_true c2
    clear c2
    obtain rfl := Option.some.inj H
    go_enter Try.func21, Try.ntmps21
    go_wp2
    go_ret
    exact ⟨by first | rfl | (simp; done) | (simp [*]; done), by repeat (first | exact Drawn0.refl _ | apply Drawn0.step)⟩
  · rw [if_neg c2] at H
    have c2b0 : decide (16777216 < a0) = false := decide_eq_false c2
    clear c2
    by_cases c3 : a0 < (-16777216)
    · rw [if_pos c3] at H
      have c3b0 : decide (a0 < (-16777216)) = true := decide_eq_true c3
      clear c3
      obtain rfl := Option.some.inj H
      go_enter Try.func21, Try.ntmps21
      go_wp2
      go_ret
      exact ⟨by first | rfl | (simp; done) | (simp [*]; done), by repeat (first | exact Drawn0.refl _ | apply Drawn0.step)⟩
    · rw [if_neg c3] at H
      have c3b0 : decide (a0 < (-16777216)) = false := decide_eq_false c3
      clear c3
      obtain rfl := Option.some.inj H
      go_enter Try.func21, Try.ntmps21
      go_wp2
      go_ret
      exact ⟨by first | rfl | (simp; done) | (simp [*]; done), by repeat (first | exact Drawn0.refl _ | apply Drawn0.step)⟩

end Go.Proofs.Ytaejmgdpnnhpmaa.QRasterFlat
