/- The reference's Mains, in the printed contracts' shape. -/
import Derived.Test.YtaejmgdpnnhpmaaRefMains
namespace Go.Proofs.Ytaejmgdpnnhpmaa.QFlex
open Go.RowKit Go.Proofs.YtaejmgdpnnhpmaaW.PrintWords Go.Proofs.YtaejmgdpnnhpmaaW.PrintLast Go.Proofs.YtaejmgdpnnhpmaaW.PrintMore
set_option linter.unusedVariables false
set_option linter.unusedSimpArgs false
theorem loopR_mono (gr : Bool) (L : Int) (X : List S91) (n : Nat) (begin : Int) : ∀ (k : Nat) (Y : List Int) (Z : List Bool), LeO (loopR gr L X n begin k Y Z) (loopR gr L X n begin (k + 1) Y Z)
  | 0, Y, Z => LeO.none _
  | k + 1, Y, Z => by
    have ih := loopR_mono gr L X n begin k (turnR gr L X n begin Y Z).1 (turnR gr L X n begin Y Z).2
    intro r hr
    simp only [loopR] at hr ⊢
    split at hr
    · rename_i h
      rw [if_pos h]
      have := ih r hr
      simpa only [loopR] using this
    · rename_i h
      rw [if_neg h]
      exact hr
def clerestoryref3_Mains.f (k : Nat) (a0 a1 : Int) (l2 : List S91) : Option (List Int) := if 50 < k ∧ l2.length ≤ 50 then (refL a0 a1 l2 k).bind fun r => some (r.map fun x => mx 0 x) else none
theorem clerestoryref3_Mains.mono : ∀ a0 a1 a2 k, LeO (clerestoryref3_Mains.f k a0 a1 a2) (clerestoryref3_Mains.f (k + 1) a0 a1 a2) := by
  intro a0 a1 a2 k r hr
  unfold clerestoryref3_Mains.f at hr ⊢
  split at hr
  · rename_i h
    rw [if_pos ⟨by omega, h.2⟩]
    obtain ⟨q, h1, h2⟩ := Option.bind_eq_some_iff.mp hr
    have h3 : refL a0 a1 a2 (k + 1) = some q := loopR_mono _ _ _ _ _ k _ _ q h1
    rw [h3]
    exact h2
  · cases hr
theorem clerestoryref3_Mains.calls (k : Nat) (a0 a1 : Int) (A2 : Option Addr) (c2 : Nat) (l2 : List S91) (r : List Int) (w : World) (hr2 : Kd.C k91 w A2 l2.length l2) (hc2 : l2.length ≤ c2) (h : clerestoryref3_Mains.f k a0 a1 l2 = some r) :
    Calls Try.prog 29 #[.int .i64 a0, .int .i64 a1, .slice A2 l2.length c2] w fun e w' => ∃ v0_ : Value, e = .returned (v0_) ∧ Kd.R (Kd.int .i64) 3 w' w.heap.size (fun _ => True) v0_ r ∧ Below w.heap.size w w' := by
  unfold clerestoryref3_Mains.f at h
  split at h
  · rename_i hk
    obtain ⟨q, h1, h2⟩ := Option.bind_eq_some_iff.mp h
    obtain rfl := Option.some.inj h2
    exact refmains_walk k A2 c2 l2 a0 a1 w hr2 hc2 hk.2 hk.1 q h1
  · cases h
end Go.Proofs.Ytaejmgdpnnhpmaa.QFlex
