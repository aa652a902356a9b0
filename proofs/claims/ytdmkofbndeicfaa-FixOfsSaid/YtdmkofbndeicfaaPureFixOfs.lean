/- FixOfs: Of answers what the document's reference answers, of every value and every base. -/
import Derived.Test.YtdmkofbndeicfaaPFixOfsx1
namespace Go.Proofs.Ytdmkofbndeicfaa.Pure
open Go.RowKit Go.Proofs.Ytdmkofbndeicfaa.PFixOfs Go.Proofs.YtdmkofbndeicfaaW.PrintWords Go.Proofs.YtdmkofbndeicfaaW.PrintLast Go.Proofs.YtdmkofbndeicfaaW.PrintMore

def cut (n : Int) : Int := if n > 16777216 then 16777216 else (if n < (-16777216) then (-16777216) else n)
theorem cut_le (n : Int) : -16777216 ≤ cut n ∧ cut n ≤ 16777216 := by
  unfold cut
  repeat' split
  all_goals omega
theorem cut_a (n : Int) : fix_Cut.f n = some (cut n) := by
  unfold fix_Cut.f cut mn mx
  congr 1
  repeat' split
  all_goals omega
theorem cut_b (n : Int) : clerestoryref3_Cut.f n = some (cut n) := by
  unfold clerestoryref3_Cut.f cut
  repeat' split
  all_goals rfl
theorem tdiv_le (n d : Int) : -(n.natAbs : Int) ≤ n.tdiv d ∧ n.tdiv d ≤ (n.natAbs : Int) := by
  have h := Int.natAbs_tdiv n d
  have h2 : n.natAbs.div d.natAbs ≤ n.natAbs := Nat.div_le_self _ _
  omega
theorem floor_a (n d : Int) (h0 : -4611686018427387904 ≤ n) (h1 : n ≤ 4611686018427387904) (hd : d ≠ 0) : fix_floor.f n d = some (n.fdiv d) := by
  have hb := tdiv_le n d
  have w0 : wrap64 (n.tdiv d) = n.tdiv d := by unfold wrap64; omega
  have w1 : wrap64 (n.tdiv d - 1) = n.tdiv d - 1 := by unfold wrap64; omega
  unfold fix_floor.f
  rw [if_neg hd, w0, w1, Int.fdiv_eq_tdiv]
  by_cases h : d ∣ n
  · rw [if_pos (Int.tmod_eq_zero_of_dvd h), if_pos h]; simp
  · rw [if_neg (fun e => h (Int.dvd_iff_tmod_eq_zero.mpr e)), if_neg h]
    rcases (by omega : n < 0 ∨ 0 ≤ n) with a | a <;> rcases (by omega : d < 0 ∨ 0 < d) with b | b
    · rw [if_neg (by simp [a, b]), if_neg (by omega), if_neg (by omega), Int.sign_eq_neg_one_of_neg b]; congr 1; omega
    · rw [if_pos (by simp [a]; omega), if_neg (by omega), if_pos (by omega), Int.sign_eq_one_of_pos b]
    · rw [if_pos (by simp [b]; omega), if_pos a, if_neg (by omega)]
    · rw [if_neg (by simp; omega), if_pos a, if_pos (by omega)]; congr 1; omega
theorem down_b (n d : Int) (h0 : -4611686018427387904 ≤ n) (h1 : n ≤ 4611686018427387904) (hd : 0 < d) : clerestoryref3_down.f n d = some (n.fdiv d) := by
  have hb := tdiv_le n d
  have w0 : wrap64 (n.tdiv d) = n.tdiv d := by unfold wrap64; omega
  have w1 : wrap64 (n.tdiv d - 1) = n.tdiv d - 1 := by unfold wrap64; omega
  unfold clerestoryref3_down.f
  rw [if_neg (by omega), w0, w1, Int.fdiv_eq_tdiv]
  have hs := Int.sign_tmod n d
  by_cases h : d ∣ n
  · rw [if_neg (by rw [Int.tmod_eq_zero_of_dvd h]; omega), if_pos h]; simp
  · rw [if_neg h] at hs ⊢
    rcases (by omega : n < 0 ∨ 0 ≤ n) with a | a
    · rw [Int.sign_eq_neg_one_of_neg a] at hs
      rw [if_pos (Int.neg_of_sign_eq_neg_one hs), if_neg (by omega), if_pos (by omega), Int.sign_eq_one_of_pos hd]
    · rw [if_neg (by have := Int.tmod_nonneg d a; omega), if_pos a, if_pos (by omega)]; simp
theorem mul_le (a b : Int) (ha : -16777216 ≤ a ∧ a ≤ 16777216) (hb : -16777216 ≤ b ∧ b ≤ 16777216) : -281474976710656 ≤ a * b ∧ a * b ≤ 281474976710656 := by
  have h : (a * b).natAbs ≤ 16777216 * 16777216 := by rw [Int.natAbs_mul]; exact Nat.mul_le_mul (by omega) (by omega)
  omega
def part (n up down : Int) : Int := if cut down = 0 then 0 else cut ((cut n * cut up).fdiv (cut down))
theorem part_a (n up down : Int) : fix_Part.f n up down = some (part n up down) := by
  unfold fix_Part.f part
  simp only [cut_a, Option.bind_some]
  have hn := cut_le n
  have hu := cut_le up
  have hd := cut_le down
  have hm := mul_le _ _ hn hu
  by_cases h : cut down = 0
  · rw [if_pos h, if_pos h]
  · rw [if_neg h, if_neg h]
    have w : wrap64 (cut n * cut up) = cut n * cut up := by unfold wrap64; omega
    rw [w, floor_a _ _ (by omega) (by omega) h]
    rfl
theorem part_b (n up down : Int) : clerestoryref3_Part.f n up down = some (part n up down) := by
  unfold clerestoryref3_Part.f part
  simp only [cut_b, Option.bind_some]
  have hn := cut_le n
  have hu := cut_le up
  have hd := cut_le down
  have hm := mul_le _ _ hn hu
  by_cases h : cut down = 0
  · rw [if_pos h, if_pos h]
  · rw [if_neg h, if_neg h]
    have w : wrap64 (cut n * cut up) = cut n * cut up := by unfold wrap64; omega
    by_cases hlt : cut down < 0
    · have w1 : wrap64 (-cut up) = -cut up := by unfold wrap64; omega
      have w2 : wrap64 (-cut down) = -cut down := by unfold wrap64; omega
      have w3 : wrap64 (cut n * -cut up) = -(cut n * cut up) := by rw [Int.mul_neg]; unfold wrap64; omega
      rw [if_pos hlt, w1, w2, w3, down_b _ _ (by omega) (by omega) (by omega), Int.neg_fdiv_neg]
      rfl
    · rw [if_neg hlt, w, down_b _ _ (by omega) (by omega) (by omega)]
      rfl

theorem of_a (a b base : Int) : fix_Of.f a b base = some (if a = 2 then (cut b, true) else if a = 3 then (part base b 10000, true) else (0, false)) := by
  unfold fix_Of.f
  simp only [cut_a, part_a, Option.bind_some]
  repeat' split
  all_goals rfl
theorem of_b (a b base : Int) : clerestoryref3_Of.f a b base = some (if a = 2 then (cut b, true) else if a = 3 then (part base b 10000, true) else (0, false)) := by
  unfold clerestoryref3_Of.f
  simp only [cut_b, part_b, Option.bind_some]
  repeat' split
  all_goals rfl
theorem FixOfs (a b base : Int) : clerestorylaw3_FixOfs.f a b base = some true := by
  have e1 : part 7 1 2 = 3 := by decide +kernel
  have e2 : part (-7) 1 2 = -4 := by decide +kernel
  unfold clerestorylaw3_FixOfs.f clerestorylaw3_fixed.f
  simp [of_a, of_b, part_a, e1, e2]
theorem FixOfs.walk (a b base : Int) (w : World) (_ : ∀ x ∈ [a, b], (Lit.int .i64 x).wf = true) (_ : (Lit.int .i64 base).wf = true) :
    Calls Try.prog 6 #[.agg (nums .i64 [a, b]).toArray, .int .i64 base] w fun e w' => e = .returned (.bool true) ∧ Below w.heap.size w w' :=
  clerestorylaw3_FixOfs.calls a b base true w (FixOfs a b base)

end Go.Proofs.Ytdmkofbndeicfaa.Pure
