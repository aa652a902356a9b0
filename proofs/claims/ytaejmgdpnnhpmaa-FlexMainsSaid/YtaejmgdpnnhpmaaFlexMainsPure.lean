/- The law FlexMains: what it computes, and its walk at any arguments. -/
import Derived.Test.YtaejmgdpnnhpmaaQFlexm
import Derived.Test.YtaejmgdpnnhpmaaFlexItems
import Derived.Test.YtaejmgdpnnhpmaaMainsEq
import Derived.Test.YtaejmgdpnnhpmaaOpenFlex
namespace Go.Proofs.Ytaejmgdpnnhpmaa.QFlex
open Go.RowKit Go.Proofs.YtaejmgdpnnhpmaaW.PrintWords Go.Proofs.YtaejmgdpnnhpmaaW.PrintLast Go.Proofs.YtaejmgdpnnhpmaaW.PrintMore
set_option linter.unusedVariables false
theorem flexMains_pure (a0 a1 : Int) (l2 : List S91) (hl : (l2.length : Int) ≤ 9223372036854775807) : ∃ k, clerestorylaw3_FlexMains.f k a0 a1 l2 = some true := by
  refine ⟨60 + 140, ?_⟩
  unfold clerestorylaw3_FlexMains.f
  have hm : mn (l2.length : Int) 50 = ((min l2.length 50 : Nat) : Int) := by unfold mn; split <;> omega
  rw [hm, if_pos (by omega), if_pos (by omega), Option.bind_some, flexed_f, Option.bind_some, if_pos rfl, Int.toNat_natCast]
  obtain ⟨l, hll⟩ : ∃ l, l2.take (min l2.length 50) = l := ⟨_, rfl⟩
  have h50 : l.length ≤ 50 := by rw [← hll, List.length_take]; omega
  rw [hll]
  obtain ⟨r, h1, h2, h3⟩ := mains_eq a0 a1 l h50 (60 + 140) (by omega)
  have e2 : clerestoryref3_Mains.f (60 + 140) a0 a1 l = some (r.map fun x => mx 0 x) := by
    unfold clerestoryref3_Mains.f
    rw [if_pos ⟨by omega, h50⟩, h2, Option.bind_some]
  rw [h3, Option.bind_some, e2, Option.bind_some, eq_f _ (by rw [List.length_map]; omega) _ (by rw [List.length_map]; omega), Option.bind_some]
end Go.Proofs.Ytaejmgdpnnhpmaa.QFlex
namespace Go.Proofs.Ytaejmgdpnnhpmaa.Pure
open Go.RowKit Go.Proofs.Ytaejmgdpnnhpmaa.QFlex Go.Proofs.YtaejmgdpnnhpmaaW.PrintWords Go.Proofs.YtaejmgdpnnhpmaaW.PrintLast Go.Proofs.YtaejmgdpnnhpmaaW.PrintMore
set_option linter.unusedVariables false
theorem FlexMains.walk {H : Type} {enc : TypeId × Value → H} {spare : Nat → Bool} {held : Bool} {d : DataW H} {ps : List MemPlace} {P0 P1 : Prop} (a0 a1 : Int) (a2 : Option Addr) (len cap : Nat) (W : World) (w0 : P0) (w1 : P1) (k0 : DataW.Trod enc Try.prog W 0 spare held 49 (.slice a2 len cap) d ps) (y0 : len * 48 ≤ 140737488351232) :
    Calls Try.prog 6 #[.int .i64 a0, .int .i64 a1, .slice a2 len cap] W fun e w' => e = .returned (.bool true) ∧ Below W.heap.size W w' := by
  obtain ⟨fuel, hf⟩ := k0
  obtain ⟨b, rfl, hc, hC⟩ := Open.open_flex Try.underlying49 Try.underlying91 Try.underlying3 rfl (by kernel_rfl) (by kernel_rfl) (by simpa [Value.cells] using hf)
  obtain ⟨k, hk⟩ := flexMains_pure a0 a1 b (by omega)
  exact clerestorylaw3_FlexMains.calls k a0 a1 a2 cap b true W hC hc hk
end Go.Proofs.Ytaejmgdpnnhpmaa.Pure
