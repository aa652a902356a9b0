/- The walk of the law FlexRows at any arguments. -/
import Derived.Test.YtaejmgdpnnhpmaaFlexRowsPure
import Derived.Test.YtaejmgdpnnhpmaaOpenFlex
namespace Go.Proofs.Ytaejmgdpnnhpmaa.Pure
open Go.RowKit Go.Proofs.Ytaejmgdpnnhpmaa.QFlex Go.Proofs.YtaejmgdpnnhpmaaW.PrintWords Go.Proofs.YtaejmgdpnnhpmaaW.PrintLast Go.Proofs.YtaejmgdpnnhpmaaW.PrintMore
set_option linter.unusedVariables false
theorem FlexRows.walk {H : Type} {enc : TypeId × Value → H} {spare : Nat → Bool} {held : Bool} {d : DataW H} {ps : List MemPlace} {P0 P1 : Prop} (a0 a1 : Int) (a2 : Option Addr) (len cap : Nat) (a3 : Bool) (W : World) (w0 : P0) (w1 : P1) (k0 : DataW.Trod enc Try.prog W 0 spare held 49 (.slice a2 len cap) d ps) (y0 : len * 48 ≤ 140737488351232) :
    Calls Try.prog 7 #[.int .i64 a0, .int .i64 a1, .slice a2 len cap, .bool a3] W fun e w' => e = .returned (.bool true) ∧ Below W.heap.size W w' := by
  obtain ⟨fuel, hf⟩ := k0
  obtain ⟨b, rfl, hc, hC⟩ := Open.open_flex Try.underlying49 Try.underlying91 Try.underlying3 rfl (by kernel_rfl) (by kernel_rfl) (by simpa [Value.cells] using hf)
  obtain ⟨k, hk⟩ := flexRows_pure a0 a1 b a3 (by omega)
  exact clerestorylaw3_FlexRows.calls k a0 a1 a2 cap b a3 true W hC hc hk
end Go.Proofs.Ytaejmgdpnnhpmaa.Pure
