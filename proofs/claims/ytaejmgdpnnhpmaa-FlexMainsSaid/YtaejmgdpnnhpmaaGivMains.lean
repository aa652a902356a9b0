/- flex.Mains, in the printed contracts' shape. -/
import Derived.Test.YtaejmgdpnnhpmaaFlexMains
namespace Go.Proofs.Ytaejmgdpnnhpmaa.QFlex
open Go.RowKit Go.Proofs.YtaejmgdpnnhpmaaW.PrintWords Go.Proofs.YtaejmgdpnnhpmaaW.PrintLast Go.Proofs.YtaejmgdpnnhpmaaW.PrintMore
set_option linter.unusedVariables false
set_option linter.unusedSimpArgs false
theorem turnF_mono (k : Nat) (room : Int) (gr : Bool) (first : Int) (xs : List S99) : LeO (turnF k room gr first xs) (turnF (k + 1) room gr first xs) := by
  unfold turnF
  refine LeO.bind (flex_row_now.mono _ _ _ k) (fun n => LeO.bind (flex_row_parts.mono _ _ _ _ k) (fun p => LeO.refl _))
theorem loopF_mono (k0 : Nat) (room : Int) (gr : Bool) (first : Int) : ∀ (k : Nat) (xs : List S99), LeO (loopF k0 room gr first k xs) (loopF (k0 + 1) room gr first (k + 1) xs)
  | 0, xs => LeO.none _
  | k + 1, xs => by
    simp only [loopF]
    refine LeO.ite (LeO.bind (turnF_mono _ _ _ _ _) (fun ys => ?_)) (LeO.refl _)
    have := loopF_mono k0 room gr first k ys
    simpa only [loopF] using this
def roomOf (a0 a1 : Int) (n : Nat) : Int := wrap64 (cut a0 - wrap64 (mx 0 (cut a1) * mx 0 (wrap64 ((n : Int) - 1))))
def mainsF (k : Nat) (rm : Int) (xs : List S99) (n : Int × Int × Bool) : Option (List Int) :=
  if n.2 = (rm, false) then (flex_row_now.f k rm (begun (decide (0 < n.1)) xs xs.length) (decide (0 < n.1))).bind fun n1 => if n1.2 = (rm, decide (0 < n.1)) then (loopF k rm (decide (0 < n.1)) n1.1 k (begun (decide (0 < n.1)) xs xs.length)).bind fun zs => some (zs.map fun x => mx 0 x.f3) else none else none
def flex_Mains.f (k : Nat) (a0 a1 : Int) (l2 : List S91) : Option (List Int) :=
  if 50 < k ∧ l2.length ≤ 50 then (flex_items.f k l2).bind fun xs => if xs.length = l2.length then (flex_freeLong.f k (roomOf a0 a1 l2.length) xs false).bind (mainsF k (roomOf a0 a1 l2.length) xs) else none else none
theorem flex_Mains.mono : ∀ a0 a1 a2 k, LeO (flex_Mains.f k a0 a1 a2) (flex_Mains.f (k + 1) a0 a1 a2) := by
  intro a0 a1 a2 k r hr
  unfold flex_Mains.f at hr ⊢
  split at hr
  · rename_i h
    rw [if_pos ⟨by omega, h.2⟩]
    refine LeO.bind (flex_items.mono _ k) (fun xs => ?_) r hr
    refine LeO.ite (LeO.bind (flex_freeLong.mono _ _ _ k) (fun n => ?_)) (LeO.refl _)
    unfold mainsF
    refine LeO.ite (LeO.bind (flex_row_now.mono _ _ _ k) (fun n1 => LeO.ite (LeO.bind (loopF_mono _ _ _ _ _ _) (fun zs => LeO.refl _)) (LeO.refl _))) (LeO.refl _)
  · cases hr
theorem flex_Mains.calls (k : Nat) (a0 a1 : Int) (A2 : Option Addr) (c2 : Nat) (l2 : List S91) (r : List Int) (w : World) (hr2 : Kd.C k91 w A2 l2.length l2) (hc2 : l2.length ≤ c2) (h : flex_Mains.f k a0 a1 l2 = some r) :
    Calls Try.prog 28 #[.int .i64 a0, .int .i64 a1, .slice A2 l2.length c2] w fun e w' => ∃ v0_ : Value, e = .returned (v0_) ∧ Kd.R (Kd.int .i64) 3 w' w.heap.size (fun _ => True) v0_ r ∧ Below w.heap.size w w' := by
  unfold flex_Mains.f at h
  split at h
  · rename_i hk
    obtain ⟨xs, h1, h⟩ := Option.bind_eq_some_iff.mp h
    split at h
    · rename_i hxl
      obtain ⟨⟨n, n2⟩, h2, h⟩ := Option.bind_eq_some_iff.mp h
      unfold mainsF at h
      split at h
      · rename_i hn
        obtain ⟨⟨n1, n3⟩, h3, h⟩ := Option.bind_eq_some_iff.mp h
        split at h
        · rename_i hn1
          obtain ⟨zs, h4, h⟩ := Option.bind_eq_some_iff.mp h
          obtain rfl := Option.some.inj h
          simp only at hn hn1 h2 h3 h4
          subst hn; subst hn1
          exact mains_walk k A2 c2 l2 a0 a1 _ n n1 _ xs zs w hr2 hc2 hk.2 hk.1 h1 hxl rfl h2 rfl h3 h4
        · cases h
      · cases h
    · cases h
  · cases h
end Go.Proofs.Ytaejmgdpnnhpmaa.QFlex
