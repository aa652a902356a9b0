/- What Looks tells, element by element, in plain words. -/
import Derived.Test.YtmaalgnedojfjaaDoorBlLooks
namespace Go.Proofs.YtmaalgnedojfjaaDoor.PBoxesLooks
open Go.RowKit Go.Proofs.YtmaalgnedojfjaaDoorW.PrintWords Go.Proofs.YtmaalgnedojfjaaDoorW.PrintLast Go.Proofs.YtmaalgnedojfjaaDoorW.PrintMore
set_option linter.unusedVariables false
set_option linter.unusedSimpArgs false
theorem looked_succ (ini : List Int) (L : List (List Int)) (B : List S29) (n : Nat) : looked ini L B (n + 1) = looked ini L B n ++ [lookOf ini L (looked ini L B n) (rd_T29 B (n : Int))] := rfl
theorem looked_get (ini : List Int) (L : List (List Int)) (B : List S29) : ∀ (n k : Nat), k < n → (looked ini L B n).getD k zS = lookOf ini L (looked ini L B k) (rd_T29 B (k : Int))
  | 0, k, h => absurd h (by omega)
  | n + 1, k, h => by
    have hl := looked_length ini L B n
    rw [looked_succ, List.getD_eq_getElem?_getD]
    by_cases e : k < n
    · rw [List.getElem?_append_left (by omega), ← List.getD_eq_getElem?_getD]
      exact looked_get ini L B n k e
    · obtain rfl : k = n := by omega
      rw [List.getElem?_append_right (by omega), hl, Nat.sub_self, List.getElem?_cons_zero, Option.getD_some]
theorem set_get (l : List Int) (i j : Nat) (v : Int) (h : i < l.length) : (l.set i v).getD j 0 = if j = i then v else l.getD j 0 := by
  rw [List.getD_eq_getElem?_getD, List.getD_eq_getElem?_getD, List.getElem?_set]
  by_cases e : i = j
  · subst e; simp [h]
  · rw [if_neg e, if_neg (fun q => e q.symm)]
def pickV (ini par : List Int) (t i : Nat) : Int := if inh t then par.getD i 0 else ini.getD i 0
theorem pick2_get (ini par s : List Int) (p j : Nat) (hs : s.length = 118) (hp : p < 59) : (pick2 ini par s p).getD j 0 = if j = p * 2 + 1 then pickV ini par p j else if j = p * 2 then pickV ini par p j else s.getD j 0 := by
  unfold pick2 pickV
  cases inh p
  · simp only [Bool.false_eq_true, if_false]
    rw [set_get _ _ _ _ (by rw [List.length_set]; omega), set_get _ _ _ _ (by omega)]
    by_cases h1 : j = p * 2 + 1
    · rw [if_pos h1, if_pos h1, h1]
    · rw [if_neg h1, if_neg h1]
      by_cases h2 : j = p * 2
      · rw [if_pos h2, if_pos h2, h2]
      · rw [if_neg h2, if_neg h2]
  · simp only [if_true]
    rw [set_get _ _ _ _ (by rw [List.length_set]; omega), set_get _ _ _ _ (by omega)]
    by_cases h1 : j = p * 2 + 1
    · rw [if_pos h1, if_pos h1, h1]
    · rw [if_neg h1, if_neg h1]
      by_cases h2 : j = p * 2
      · rw [if_pos h2, if_pos h2, h2]
      · rw [if_neg h2, if_neg h2]
theorem mk1_get (ini par : List Int) : ∀ (k t j : Nat), k ≤ 59 → t < k → (j = t * 2 ∨ j = t * 2 + 1) → (mk1 ini par k).getD j 0 = pickV ini par t j
  | 0, t, j, _, h, _ => absurd h (by omega)
  | k + 1, t, j, hk, h, hj => by
    unfold mk1
    rw [pick2_get _ _ _ _ _ (mk1_length _ _ _) (by omega)]
    by_cases e : t = k
    · subst e
      rcases hj with rfl | rfl
      · rw [if_neg (by omega), if_pos rfl]
      · rw [if_pos rfl]
    · rw [if_neg (by omega), if_neg (by omega)]
      exact mk1_get ini par k t j (by omega) (by omega) hj
/-- What Looks tells of box k, at a number: the node's, the parent's, or the initial one. -/
theorem looked_val (ini : List Int) (L : List (List Int)) (B : List S29) (n k t j : Nat) (hk : k < n) (ht : t < 59) (hj : j = t * 2 ∨ j = t * 2 + 1) (hp : (rd_T29 B (k : Int)).f1 < 0 → (rd_T29 B (k : Int)).f2.toNat < k) :
    ((looked ini L B n).getD k zS).getD j 0 = if 0 ≤ (rd_T29 B (k : Int)).f1 then (L.getD (rd_T29 B (k : Int)).f1.toNat zS).getD j 0 else if inh t then ((looked ini L B n).getD (rd_T29 B (k : Int)).f2.toNat zS).getD j 0 else ini.getD j 0 := by
  rw [looked_get ini L B n k hk]
  unfold lookOf
  by_cases h : 0 ≤ (rd_T29 B (k : Int)).f1
  · rw [if_pos h, if_pos h]
  · have hq := hp (by omega)
    rw [if_neg h, if_neg h, mk1_get _ _ 59 t j (Nat.le_refl _) ht hj]
    unfold pickV
    rw [looked_get ini L B n _ (by omega), looked_get ini L B k _ hq]
/-- The law's own test of a box. -/
theorem bad_law (m k : Nat) (x : S29) : bad m k x = if ((k : Int) == 0) then (decide (x.f1 < -1) || decide ((m : Int) ≤ x.f1)) || decide (x.f1 < 0) || (x.f2 != -1) else (decide (x.f1 < -1) || decide ((m : Int) ≤ x.f1)) || decide (x.f2 < 0) || decide ((k : Int) ≤ x.f2) := by
  unfold bad
  by_cases hk : k = 0
  · subst hk
    by_cases h2 : x.f2 = -1
    · simp [h2]
    · have e2 : (x.f2 == -1) = false := beq_eq_false_iff_ne.mpr h2
      simp [bne, e2]
  · have e : ((k : Int) == 0) = false := beq_eq_false_iff_ne.mpr (by omega)
    rw [e]
    simp only [Bool.false_eq_true, if_false, Bool.false_and, Bool.or_false, Bool.false_bne]
    by_cases h2 : x.f2 = -1
    · simp [h2]
    · have e2 : (x.f2 == -1) = false := beq_eq_false_iff_ne.mpr h2
      rw [e2, Bool.or_false]
      congr 1
      congr 1
      rw [decide_eq_decide]
      omega
end Go.Proofs.YtmaalgnedojfjaaDoor.PBoxesLooks
