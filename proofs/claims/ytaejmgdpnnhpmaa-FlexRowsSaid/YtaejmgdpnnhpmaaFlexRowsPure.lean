/- The plain law of FlexRows. -/
import Derived.Test.YtaejmgdpnnhpmaaFlexItems
namespace Go.Proofs.Ytaejmgdpnnhpmaa.QFlex
open Go.RowKit Go.Proofs.YtaejmgdpnnhpmaaW.PrintWords Go.Proofs.YtaejmgdpnnhpmaaW.PrintLast Go.Proofs.YtaejmgdpnnhpmaaW.PrintMore
set_option linter.unusedVariables false
set_option linter.unusedSimpArgs false
theorem rd_set_last (l : List Int) (v : Int) (j : Int) (h : 0 < l.length) : rd (l.set (l.length - 1) v) j = v ∨ rd (l.set (l.length - 1) v) j = rd l j := by
  unfold rd
  rw [List.getD_eq_getElem?_getD, List.getD_eq_getElem?_getD]
  by_cases e : l.length - 1 = j.toNat
  · left; rw [← e, List.getElem?_set_self (by omega)]; rfl
  · right; rw [List.getElem?_set_ne e]
theorem rd_snoc_any (l : List Int) (v : Int) (j : Int) : rd (l ++ [v]) j = v ∨ rd (l ++ [v]) j = rd l j ∨ rd (l ++ [v]) j = 0 := by
  unfold rd
  rw [List.getD_eq_getElem?_getD, List.getD_eq_getElem?_getD]
  by_cases e : j.toNat < l.length
  · right; left; rw [List.getElem?_append_left e]
  · rw [List.getElem?_append_right (by omega)]
    by_cases e2 : j.toNat - l.length = 0
    · left; rw [e2]; rfl
    · right; right; rw [List.getElem?_eq_none (by simp; omega)]; rfl
theorem rd_snoc_end (l : List Int) (v : Int) : rd (l ++ [v]) (l.length : Int) = v := by
  unfold rd
  rw [Int.toNat_natCast, List.getD_eq_getElem?_getD, List.getElem?_append_right (by omega), Nat.sub_self]; rfl
theorem rows_eq (l : List S91) (hl : l.length ≤ 50) (a0 a1 : Int) (wr : Bool) : ∀ (d k k2 i : Nat) (out : List Int) (sum : Int), l.length - i = d → i ≤ l.length → d < k → d + 2 < k2 → out.length ≤ i → (0 < i → 0 < out.length) →
    (-(67108864 * (i : Int)) ≤ sum ∧ sum ≤ 67108864 * (i : Int)) → (∀ j, 0 ≤ rd out j ∧ rd out j ≤ i) →
    ∃ r, flex_Rows.l0 k (cut a0) (mx 0 (cut a1)) wr out sum (l.map itemOf) (l.length : Int) i = some r ∧ clerestoryref3_Rows.l0 k2 a0 a1 wr out sum l (l.length : Int) i = some r ∧ r.length ≤ 50
  | 0, k, k2, i, out, sum, hd, hi, hk, hk2, ho, hne, hs, hr => by
    obtain ⟨k, rfl⟩ : ∃ m, k = m + 1 := ⟨k - 1, by omega⟩
    obtain ⟨k2, rfl⟩ : ∃ m, k2 = m + 1 := ⟨k2 - 1, by omega⟩
    refine ⟨out, ?_, ?_, by omega⟩
    · simp only [flex_Rows.l0]
      rw [if_neg (by omega)]
    · simp only [clerestoryref3_Rows.l0]
      rw [if_neg (by omega)]
  | d + 1, k, k2, i, out, sum, hd, hi, hk, hk2, ho, hne, hs, hr => by
    obtain ⟨k, rfl⟩ : ∃ m, k = m + 1 := ⟨k - 1, by omega⟩
    obtain ⟨k2, rfl⟩ : ∃ m, k2 = m + 1 := ⟨k2 - 1, by omega⟩
    have hlt : i < l.length := by omega
    have hx : rd_T99 (l.map itemOf) i = itemOf l[i] := by rw [rd99 _ i (by simpa using hlt)]; simp
    have hg := mx_cut_le a1
    have hc := cut_le a0
    have he := cut_le l[i].f5
    have hb := betw_le (flexible l[i]).f0 (flexible l[i]).f1 (flexible l[i]).f2
    obtain ⟨Q, hQ⟩ : ∃ Q, clerestoryref3_Rows.l0 (k2 + 1) a0 a1 wr out sum l (l.length : Int) i = Q := ⟨_, rfl⟩
    rw [hQ]
    simp only [flex_Rows.l0]
    simp only [clerestoryref3_Rows.l0] at hQ
    rw [if_pos (by omega), if_pos (by omega), if_pos (by rw [List.length_map]; omega), hx]
    rw [if_pos (by omega), if_pos (by omega), if_pos (by omega), rd91 l i hlt, flexible_f, Option.bind_some] at hQ
    simp only [] at hQ
    rw [long_f (flexible l[i]) k2 (by omega), Option.bind_some] at hQ
    simp only [size_b, cut_b, Option.bind_some] at hQ
    rw [← hQ]
    clear hQ
    have e1 : (itemOf l[i]).f1 = longOf (flexible l[i]) := rfl
    have e2 : (itemOf l[i]).f0.f5 = cut l[i].f5 := rfl
    have e3 : (flexible l[i]).f5 = cut l[i].f5 := rfl
    rw [e1, e2, e3]
    obtain ⟨n, hn⟩ : ∃ n, longOf (flexible l[i]) = n := ⟨_, rfl⟩
    have hnb : -16777216 ≤ n ∧ n ≤ 16777216 := by rw [← hn]; exact hb
    rw [hn]
    obtain ⟨c, hcc⟩ : ∃ c, cut l[i].f5 = c := ⟨_, rfl⟩
    rw [hcc] at he ⊢
    obtain ⟨g, hgg⟩ : ∃ g, mx 0 (cut a1) = g := ⟨_, rfl⟩
    rw [hgg] at hg ⊢
    have wn : wrap64 (n + c) = n + c := by unfold wrap64; omega
    have ws : wrap64 (sum + g) = sum + g := by unfold wrap64; omega
    have ws2 : wrap64 (sum + g + n) = sum + g + n := by unfold wrap64; omega
    have ws3 : wrap64 (sum + g + n + c) = sum + g + n + c := by unfold wrap64; omega
    have ws4 : wrap64 (sum + g + (n + c)) = sum + g + n + c := by unfold wrap64; omega
    have ws5 : wrap64 (g + (n + c)) = g + (n + c) := by unfold wrap64; omega
    have ws6 : wrap64 (sum + (g + (n + c))) = sum + g + n + c := by unfold wrap64; omega
    rw [wn, ws, ws2, ws3, ws4, ws5, ws6, step50 i (by omega)]
    -- a new row
    have fresh : (∀ r, flex_Rows.l0 k (cut a0) g wr (out ++ [1]) (n + c) (l.map itemOf) (l.length : Int) ((i + 1 : Nat) : Int) = some r → True) → ∃ r, flex_Rows.l0 k (cut a0) g wr (out ++ [1]) (n + c) (l.map itemOf) (l.length : Int) ((i + 1 : Nat) : Int) = some r ∧ clerestoryref3_Rows.l0 k2 a0 a1 wr (out ++ [1]) (n + c) l (l.length : Int) ((i + 1 : Nat) : Int) = some r ∧ r.length ≤ 50 := by
      intro _
      have h := rows_eq l hl a0 a1 wr d k k2 (i + 1) (out ++ [1]) (n + c) (by omega) (by omega) (by omega) (by omega) (by simp; omega) (by simp) (by omega) (by
        intro j
        have := hr j
        rcases rd_snoc_any out 1 j with h | h | h <;> rw [h] <;> omega)
      rw [hgg] at h
      exact h
    have put0 : (if out.length < 17592186044416 then ((some (out ++ [0] : List Int)).bind fun y => (if 0 ≤ (wrap64 ((y.length : Int) - 1)) then (if (wrap64 ((y.length : Int) - 1)) < (y.length : Int) then (flex_Rows.l0 k (cut a0) g wr (y.set ((wrap64 ((y.length : Int) - 1)) : Int).toNat (wrap64 ((rd y (wrap64 ((y.length : Int) - 1))) + 1))) (n + c) (l.map itemOf) (l.length : Int) ((i + 1 : Nat) : Int)) else (none)) else (none))) else (none)) = flex_Rows.l0 k (cut a0) g wr (out ++ [1]) (n + c) (l.map itemOf) (l.length : Int) ((i + 1 : Nat) : Int) := by
      have w1 : wrap64 (((out ++ [0]).length : Int) - 1) = (out.length : Int) := by simp; unfold wrap64; omega
      rw [if_pos (by omega), Option.bind_some, w1, if_pos (by omega), if_pos (by simp; omega), rd_snoc_end, Int.toNat_natCast, List.set_append_right _ _ (Nat.le_refl _), Nat.sub_self, show wrap64 (0 + 1) = 1 by unfold wrap64; omega]
      rfl
    by_cases h0 : i = 0
    · rw [if_pos (show (i : Int) = 0 by omega), put0, if_neg (show ¬ ((i : Int) > 0) by omega), if_pos (show out.length < 17592186044416 by omega)]
      exact fresh (fun _ _ => trivial)
    · rw [if_neg (show ¬ ((i : Int) = 0) by omega), if_pos (show (i : Int) > 0 by omega)]
      have hol := hne (by omega)
      have wl : wrap64 ((out.length : Int) - 1) = ((out.length - 1 : Nat) : Int) := by unfold wrap64; omega
      have hrl := hr ((out.length - 1 : Nat) : Int)
      have wr1 : wrap64 (rd out ((out.length - 1 : Nat) : Int) + 1) = rd out ((out.length - 1 : Nat) : Int) + 1 := by unfold wrap64; omega
      have more : ∃ r, flex_Rows.l0 k (cut a0) g wr (out.set (out.length - 1) (rd out ((out.length - 1 : Nat) : Int) + 1)) (sum + g + n + c) (l.map itemOf) (l.length : Int) ((i + 1 : Nat) : Int) = some r ∧ clerestoryref3_Rows.l0 k2 a0 a1 wr (out.set (out.length - 1) (rd out ((out.length - 1 : Nat) : Int) + 1)) (sum + g + n + c) l (l.length : Int) ((i + 1 : Nat) : Int) = some r ∧ r.length ≤ 50 := by
        have h := rows_eq l hl a0 a1 wr d k k2 (i + 1) (out.set (out.length - 1) (rd out ((out.length - 1 : Nat) : Int) + 1)) (sum + g + n + c) (by omega) (by omega) (by omega) (by omega) (by simp; omega) (by simp; omega) (by omega) (by
          intro j
          have := hr j
          rcases rd_set_last out (rd out ((out.length - 1 : Nat) : Int) + 1) j hol with h | h <;> rw [h] <;> omega)
        rw [hgg] at h
        exact h
      have q1 : (0 : Int) ≤ ((out.length - 1 : Nat) : Int) := by omega
      have q2 : ((out.length - 1 : Nat) : Int) < (out.length : Int) := by omega
      simp only [wl, if_pos q1, if_pos q2, wr1, Int.toNat_natCast]
      cases wr
      · simp only [Bool.false_eq_true, if_false]
        exact more
      · simp only [if_true]
        by_cases hw : sum + g + n + c > cut a0
        · rw [if_pos hw, put0, if_neg (show ¬ (sum + g + n + c ≤ cut a0) by omega), if_pos (show out.length < 17592186044416 by omega)]
          exact fresh (fun _ _ => trivial)
        · rw [if_neg hw, if_pos (show sum + g + n + c ≤ cut a0 by omega)]
          exact more
theorem flexRows_pure (a0 a1 : Int) (l2 : List S91) (a3 : Bool) (hl : (l2.length : Int) ≤ 9223372036854775807) : ∃ k, clerestorylaw3_FlexRows.f k a0 a1 l2 a3 = some true := by
  refine ⟨60 + 40, ?_⟩
  unfold clerestorylaw3_FlexRows.f
  have hm : mn (l2.length : Int) 50 = ((min l2.length 50 : Nat) : Int) := by unfold mn; split <;> omega
  rw [hm, if_pos (by omega), if_pos (by omega), Option.bind_some, flexed_f, Option.bind_some, if_pos rfl, Int.toNat_natCast]
  obtain ⟨l, hll⟩ : ∃ l, l2.take (min l2.length 50) = l := ⟨_, rfl⟩
  have h50 : l.length ≤ 50 := by rw [← hll, List.length_take]; omega
  rw [hll]
  obtain ⟨r, h1, h2, h3⟩ := rows_eq l h50 a0 a1 a3 l.length 100 100 0 [] 0 (by omega) (by omega) (by omega) (by omega) (by simp) (by omega) (by omega) (by intro j; simp [rd])
  have e1 : flex_Rows.f 100 a0 a1 l a3 = some r := by
    unfold flex_Rows.f
    rw [cut_a, Option.bind_some, cut_a, Option.bind_some, items_f l h50 100 (by omega), Option.bind_some, List.length_map]
    exact h1
  have e2 : clerestoryref3_Rows.f 100 a0 a1 l a3 = some r := h2
  rw [e1, Option.bind_some, e2, Option.bind_some, eq_f r (by omega) _ (by omega), Option.bind_some]
end Go.Proofs.Ytaejmgdpnnhpmaa.QFlex
