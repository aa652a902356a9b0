/- MarginsMeet: whatever list of numbers is handed in, margins.Meet answers what the document's reference answers; on every input, without a condition. -/
import Derived.Test.YtdmkofbndeicfaaPMarginsMeetx1
namespace Go.Proofs.Ytdmkofbndeicfaa.Pure
open Go.RowKit Go.Proofs.Ytdmkofbndeicfaa.PMarginsMeet Go.Proofs.YtdmkofbndeicfaaW.PrintWords Go.Proofs.YtdmkofbndeicfaaW.PrintLast Go.Proofs.YtdmkofbndeicfaaW.PrintMore

def cut (n : Int) : Int := if n > 16777216 then 16777216 else (if n < (-16777216) then (-16777216) else n)
theorem cut_a (n : Int) : fix_Cut.f n = some (cut n) := by
  unfold fix_Cut.f cut mn mx
  congr 1
  repeat' split
  all_goals omega
theorem cut_b (n : Int) : clerestoryref3_Cut.f n = some (cut n) := by
  unfold clerestoryref3_Cut.f cut
  repeat' split
  all_goals rfl
theorem drop_rd (l : List Int) (i : Nat) (h : i < l.length) : l.drop i = rd l (i : Int) :: l.drop (i + 1) := by
  have e : rd l (i : Int) = l[i] := by simp [rd, List.getD, h]
  rw [e]; exact List.drop_eq_getElem_cons h

def meet : List Int → Int → Int → Int
  | [], m, n => cut (wrap64 (m + n))
  | x :: l, m, n => meet l (mx m (cut x)) (mn n (cut x))

theorem meet_a (l : List Int) (hl : l.length * 8 ≤ 140737488351232) (d : Nat) : ∀ (k i : Nat) (m n : Int), i + d = l.length → d < k →
    margins_Meet.l0 k m n l (l.length : Int) (i : Int) = some (meet (l.drop i) m n) := by
  induction d with
  | zero =>
    intro k i m n h hk
    obtain ⟨k, rfl⟩ : ∃ q, k = q + 1 := ⟨k - 1, by omega⟩
    have hi : i = l.length := by omega
    simp only [margins_Meet.l0]
    rw [if_neg (by omega), cut_a, hi, List.drop_length]
    rfl
  | succ d ih =>
    intro k i m n h hk
    obtain ⟨k, rfl⟩ : ∃ q, k = q + 1 := ⟨k - 1, by omega⟩
    simp only [margins_Meet.l0]
    have hw : wrap64 ((i : Int) + 1) = ((i + 1 : Nat) : Int) := by unfold wrap64; omega
    rw [if_pos (by omega), if_pos (by omega), if_pos (by omega), cut_a, hw, drop_rd l i (by omega)]
    exact ih k (i + 1) _ _ (by omega) (by omega)

theorem meet_b (l : List Int) (hl : l.length * 8 ≤ 140737488351232) (d : Nat) : ∀ (k i : Nat) (m n : Int), i + d = l.length → 2 * d < k →
    clerestoryref3_Meet.l0 k m n l (l.length : Int) (i : Int) = some (meet (l.drop i) m n) := by
  induction d with
  | zero =>
    intro k i m n h hk
    obtain ⟨k, rfl⟩ : ∃ q, k = q + 1 := ⟨k - 1, by omega⟩
    have hi : i = l.length := by omega
    simp only [clerestoryref3_Meet.l0]
    rw [if_neg (by omega), cut_b, hi, List.drop_length]
    rfl
  | succ d ih =>
    intro k i m n h hk
    obtain ⟨k, rfl⟩ : ∃ q, k = q + 1 + 1 := ⟨k - 2, by omega⟩
    have hw : wrap64 ((i : Int) + 1) = ((i + 1 : Nat) : Int) := by unfold wrap64; omega
    have hj : ∀ m : Int, clerestoryref3_Meet.j1 (k + 1) m n (rd l i) l (l.length : Int) (i : Int) = some (meet (l.drop (i + 1)) m (mn n (cut (rd l i)))) := by
      intro m
      simp only [clerestoryref3_Meet.j1]
      rw [cut_b, hw]
      simp only [Option.bind_some]
      rw [ih k (i + 1) m _ (by omega) (by omega), ih k (i + 1) m _ (by omega) (by omega)]
      unfold mn
      split <;> rfl
    rw [clerestoryref3_Meet.l0]
    rw [if_pos (by omega), if_pos (by omega), if_pos (by omega), cut_b, drop_rd l i (by omega)]
    simp only [Option.bind_some]
    rw [hj, hj]
    show _ = some (meet (List.drop (i + 1) l) (mx m (cut (rd l i))) (mn n (cut (rd l i))))
    unfold mx
    split <;> rfl

theorem MarginsMeet : clerestorylaw3_MarginsMeet.Pure := by
  intro l h0 hl hx
  have ma : ∀ (l : List Int), l.length * 8 ≤ 140737488351232 → ∀ k, 2 * l.length < k → margins_Meet.f k l = some (meet l 0 0) := fun l hl k hk => by
    unfold margins_Meet.f; simpa using meet_a l hl l.length k 0 0 0 (by omega) (by omega)
  have mb : ∀ (l : List Int), l.length * 8 ≤ 140737488351232 → ∀ k, 2 * l.length < k → clerestoryref3_Meet.f k l = some (meet l 0 0) := fun l hl k hk => by
    unfold clerestoryref3_Meet.f; simpa using meet_b l hl l.length k 0 0 0 (by omega) (by omega)
  refine ⟨2 * l.length + 9, ?_⟩
  unfold clerestorylaw3_MarginsMeet.f clerestorylaw3_met.f
  have e0 := ma [5, (-2), 9, (-7)] (by decide) (2 * l.length + 9) (by simp only [List.length_cons, List.length_nil]; omega)
  have e1 := ma l hl (2 * l.length + 9) (by omega)
  have e2 := mb l hl (2 * l.length + 9) (by omega)
  rw [e0, e1, e2]
  have e : meet [5, (-2), 9, (-7)] 0 0 = 2 := by decide +kernel
  simp [e]

end Go.Proofs.Ytdmkofbndeicfaa.Pure
