/- Plain facts on flexible items: what items and Flexible tell, equal lists, the closed fact. -/
import Derived.Test.YtaejmgdpnnhpmaaQFlexx9
namespace Go.Proofs.Ytaejmgdpnnhpmaa.QFlex
open Go.RowKit Go.Proofs.YtaejmgdpnnhpmaaW.PrintWords Go.Proofs.YtaejmgdpnnhpmaaW.PrintLast Go.Proofs.YtaejmgdpnnhpmaaW.PrintMore
set_option linter.unusedVariables false
set_option linter.unusedSimpArgs false
def bnd (n : Int) : Int := mn (mx n 0) 1000000
def flexible (x : S91) : S91 := ⟨cut x.f0, mx 0 (cut x.f1), cut x.f2, bnd x.f3, bnd x.f4, cut x.f5⟩
def longOf (x : S91) : Int := betw x.f0 x.f1 x.f2
def itemOf (x : S91) : S99 := ⟨flexible x, longOf (flexible x), false, 0⟩
theorem bnd_le (n : Int) : 0 ≤ bnd n ∧ bnd n ≤ 1000000 := by
  unfold bnd mn mx
  repeat' split
  all_goals omega
theorem mx_cut_le (n : Int) : 0 ≤ mx 0 (cut n) ∧ mx 0 (cut n) ≤ 16777216 := by
  have := cut_le n
  unfold mx
  split <;> omega
theorem betw_le (a b c : Int) : -16777216 ≤ betw a b c ∧ betw a b c ≤ 16777216 := by
  have := cut_le a
  have := cut_le b
  have := cut_le c
  unfold betw mx mn
  repeat' split
  all_goals omega
theorem rd91 (l : List S91) (i : Nat) (h : i < l.length) : rd_T91 l i = l[i] := by
  show l.getD (i : Int).toNat z91 = _
  rw [Int.toNat_natCast, List.getD_eq_getElem?_getD, List.getElem?_eq_getElem h]; rfl
theorem rd99 (l : List S99) (i : Nat) (h : i < l.length) : rd_T99 l i = l[i] := by
  show l.getD (i : Int).toNat z99 = _
  rw [Int.toNat_natCast, List.getD_eq_getElem?_getD, List.getElem?_eq_getElem h]; rfl
theorem rdI (l : List Int) (i : Nat) (h : i < l.length) : rd l i = l[i] := by
  unfold rd
  rw [Int.toNat_natCast, List.getD_eq_getElem?_getD, List.getElem?_eq_getElem h]; rfl
theorem step50 (i : Nat) (h : i ≤ 1000) : wrap64 ((i : Int) + 1) = ((i + 1 : Nat) : Int) := by unfold wrap64; omega
def told99 (l : List S91) (i : Nat) : List S99 := (l.take i).map itemOf ++ List.replicate (l.length - i) z99
theorem told99_set (l : List S91) (i : Nat) (h : i < l.length) : (told99 l i).set i (itemOf l[i]) = told99 l (i + 1) := by
  unfold told99
  obtain ⟨m, hm⟩ : ∃ m, l.length - i = m + 1 := ⟨l.length - i - 1, by omega⟩
  rw [hm, show l.length - (i + 1) = m by omega, List.set_append_right _ _ (by simp; omega), List.length_map, List.length_take, Nat.min_eq_left (by omega), Nat.sub_self, List.replicate_succ, List.set_cons_zero,
    List.take_succ_eq_append_getElem h, List.map_append, List.append_assoc]
  rfl
theorem items_l0 (l : List S91) (hl : l.length ≤ 50) : ∀ (d k i : Nat), l.length - i = d → i ≤ l.length → d < k → flex_items.l0 k (told99 l i) l (l.length : Int) i = some (l.map itemOf)
  | 0, k, i, hd, hi, hk => by
    obtain ⟨k, rfl⟩ : ∃ m, k = m + 1 := ⟨k - 1, by omega⟩
    obtain rfl : i = l.length := by omega
    simp only [flex_items.l0]
    rw [if_neg (by omega)]
    unfold told99
    rw [List.take_length, Nat.sub_self, List.replicate_zero, List.append_nil]
  | d + 1, k, i, hd, hi, hk => by
    obtain ⟨k, rfl⟩ : ∃ m, k = m + 1 := ⟨k - 1, by omega⟩
    have hlt : i < l.length := by omega
    simp only [flex_items.l0]
    rw [if_pos (by omega), if_pos (by omega), if_pos (by omega), rd91 l i hlt]
    simp only [cut_a, flex_items_fn1.f, betw_a, Option.bind_some]
    rw [if_pos (by unfold told99; simp; omega), Int.toNat_natCast, step50 i (by omega)]
    have h := items_l0 l hl d k (i + 1) (by omega) (by omega) (by omega)
    rw [← told99_set l i hlt] at h
    exact h
theorem items_f (l : List S91) (hl : l.length ≤ 50) (k : Nat) (hk : 50 < k) : flex_items.f k l = some (l.map itemOf) := by
  unfold flex_items.f
  rw [if_pos (by omega), if_pos (by rw [Int.toNat_natCast]; omega), Int.toNat_natCast]
  have h := items_l0 l hl l.length k 0 (by omega) (by omega) (by omega)
  exact h
theorem between_f (a b c : Int) (k : Nat) (hk : 1 < k) : clerestoryref3_Between.f k a b c = some (betw a b c) := by
  obtain ⟨k, rfl⟩ : ∃ m, k = m + 2 := ⟨k - 2, by omega⟩
  have ca := cut_le a
  unfold clerestoryref3_Between.f betw
  simp only [clerestoryref3_Between.j0, clerestoryref3_Between.j1, cut_b, Option.bind_some, decide_eq_true_eq]
  unfold mx mn
  by_cases h : c ≥ 0
  · rw [if_pos h, if_pos h]
    repeat' split
    all_goals first | rfl | (congr 1; omega) | omega
  · rw [if_neg h, if_neg h]
    simp only [Bool.false_eq_true, if_false]
    repeat' split
    all_goals first | rfl | (congr 1; omega) | omega
theorem size_b (n : Int) : clerestoryref3_size.f n = some (mx 0 (cut n)) := by
  unfold clerestoryref3_size.f
  rw [cut_b]
  rfl
theorem flexible_f (x : S91) : clerestoryref3_Flexible.f x.f0 x.f1 x.f2 x.f3 x.f4 x.f5 = some ((flexible x).f0, (flexible x).f1, (flexible x).f2, (flexible x).f3, (flexible x).f4, (flexible x).f5) := by
  unfold clerestoryref3_Flexible.f clerestoryref3_Flexible_fn1.f
  simp only [cut_b, size_b, Option.bind_some]
  rfl
theorem long_f (x : S91) (k : Nat) (hk : 1 < k) : clerestoryref3_Long.f k x.f0 x.f1 x.f2 x.f3 x.f4 x.f5 = some (longOf x) := by
  unfold clerestoryref3_Long.f
  rw [between_f _ _ _ k hk]
  rfl
theorem eq_l0 (l : List Int) (hl : l.length ≤ 1000) : ∀ (d k i : Nat), l.length - i = d → i ≤ l.length → d < k → clerestoryref3_Eq_int.l0 k l l (l.length : Int) i = some true
  | 0, k, i, hd, hi, hk => by
    obtain ⟨k, rfl⟩ : ∃ m, k = m + 1 := ⟨k - 1, by omega⟩
    simp only [clerestoryref3_Eq_int.l0]
    rw [if_neg (by omega)]
  | d + 1, k, i, hd, hi, hk => by
    obtain ⟨k, rfl⟩ : ∃ m, k = m + 1 := ⟨k - 1, by omega⟩
    simp only [clerestoryref3_Eq_int.l0]
    rw [if_pos (by omega), if_pos (by omega), if_pos (by omega), if_pos (by omega), step50 i (by omega)]
    exact eq_l0 l hl d k (i + 1) (by omega) (by omega) (by omega)
theorem eq_f (l : List Int) (hl : l.length ≤ 1000) (k : Nat) (hk : l.length < k) : clerestoryref3_Eq_int.f k l l = some true := by
  unfold clerestoryref3_Eq_int.f
  rw [if_pos rfl]
  exact eq_l0 l hl l.length k 0 (by omega) (by omega) (by omega)
theorem flexed_60 : clerestorylaw3_flexed.f 60 = some true := by kernel_rfl
theorem flexed_f (k : Nat) : clerestorylaw3_flexed.f (60 + k) = some true := by
  induction k with
  | zero => exact flexed_60
  | succ k ih => exact clerestorylaw3_flexed.mono (60 + k) true ih
end Go.Proofs.Ytaejmgdpnnhpmaa.QFlex
