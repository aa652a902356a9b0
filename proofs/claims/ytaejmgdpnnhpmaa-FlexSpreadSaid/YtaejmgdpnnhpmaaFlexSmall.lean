/- Plain facts: equal lists, the closed fact flexed. -/
import Derived.Test.YtaejmgdpnnhpmaaQFlexx9
namespace Go.Proofs.Ytaejmgdpnnhpmaa.QFlex
open Go.RowKit Go.Proofs.YtaejmgdpnnhpmaaW.PrintWords Go.Proofs.YtaejmgdpnnhpmaaW.PrintLast Go.Proofs.YtaejmgdpnnhpmaaW.PrintMore
set_option linter.unusedVariables false
set_option linter.unusedSimpArgs false
theorem rdI (l : List Int) (i : Nat) (h : i < l.length) : rd l i = l[i] := by
  unfold rd
  rw [Int.toNat_natCast, List.getD_eq_getElem?_getD, List.getElem?_eq_getElem h]; rfl
theorem step50 (i : Nat) (h : i ≤ 1000) : wrap64 ((i : Int) + 1) = ((i + 1 : Nat) : Int) := by unfold wrap64; omega
theorem eq_l0 (l : List Int) (hl : l.length ≤ 1000) : ∀ (d k i : Nat), l.length - i = d → i ≤ l.length → d < k → clerestoryref3_Eq_int.l0 k l l (l.length : Int) i = some true
  | 0, k, i, hd, hi, hk => by
    obtain ⟨k, rfl⟩ : ∃ m, k = m + 1 := ⟨k - 1, by omega⟩
    simp only [clerestoryref3_Eq_int.l0]
    rw [if_neg (by omega)]
  | d + 1, k, i, hd, hi, hk => by
    obtain ⟨k, rfl⟩ : ∃ m, k = m + 1 := ⟨k - 1, by omega⟩
    simp only [clerestoryref3_Eq_int.l0]
    rw [if_pos (by omega), if_pos (by omega), if_pos (by omega), if_pos (by omega), step50 i (by omega)]
    exact eq_l0 l hl d k (i + 1) (by omega) (by omega) (by omega)
theorem eq_f (l : List Int) (hl : l.length ≤ 1000) (k : Nat) (hk : l.length < k) : clerestoryref3_Eq_int.f k l l = some true := by
  unfold clerestoryref3_Eq_int.f
  rw [if_pos rfl]
  exact eq_l0 l hl l.length k 0 (by omega) (by omega) (by omega)
theorem flexed_60 : clerestorylaw3_flexed.f 60 = some true := by kernel_rfl
theorem flexed_f (k : Nat) : clerestorylaw3_flexed.f (60 + k) = some true := by
  induction k with
  | zero => exact flexed_60
  | succ k ih => exact clerestorylaw3_flexed.mono (60 + k) true ih
end Go.Proofs.Ytaejmgdpnnhpmaa.QFlex
