/- What the reference's Share tells. -/
import Derived.Test.YtaejmgdpnnhpmaaGivRefShare
import Derived.Test.YtaejmgdpnnhpmaaGivShare
namespace Go.Proofs.Ytaejmgdpnnhpmaa.QFlex
open Go.RowKit Go.Proofs.YtaejmgdpnnhpmaaW.PrintWords Go.Proofs.YtaejmgdpnnhpmaaW.PrintLast Go.Proofs.YtaejmgdpnnhpmaaW.PrintMore
set_option linter.unusedVariables false
set_option linter.unusedSimpArgs false
/-- The sums of the weights, the first i of them. -/
def ps (ws : List Int) (i : Nat) : List Int := (List.range (i + 1)).map (psum ws)
theorem ps_length (ws : List Int) (i : Nat) : (ps ws i).length = i + 1 := by simp [ps]
theorem ps_rd (ws : List Int) (m j : Nat) (h : j ≤ m) : rd (ps ws m) (j : Int) = psum ws j := by
  simp [rd, ps, List.getElem?_range (show j < m + 1 by omega)]
theorem ps_snoc (ws : List Int) (i : Nat) : ps ws (i + 1) = ps ws i ++ [psum ws i + wt ws i] := by
  simp [ps, List.range_succ (n := i + 1), psum]
/-- What is toldS so far. -/
def toldS (n : Int) (ws : List Int) (i : Nat) : List Int := if psum ws ws.length = 0 then List.replicate i 0 else shared n ws i
theorem toldS_length (n : Int) (ws : List Int) (i : Nat) : (toldS n ws i).length = i := by unfold toldS; split <;> simp [shared]
theorem share_l1 (n : Int) (ws : List Int) (hl : ws.length * 8 ≤ 140737488351232) (d : Nat) : ∀ (k i : Nat), i + d = ws.length → d < k →
    clerestoryref3_Share.l1 k (cut n) (ps ws ws.length) (psum ws ws.length) (toldS (cut n) ws i) (ws.length : Int) (i : Int) = some (toldS (cut n) ws ws.length) := by
  induction d with
  | zero =>
    intro k i h hk
    obtain ⟨k, rfl⟩ : ∃ q, k = q + 1 := ⟨k - 1, by omega⟩
    obtain rfl : i = ws.length := by omega
    rw [clerestoryref3_Share.l1, if_neg (by omega)]
  | succ d ih =>
    intro k i h hk
    obtain ⟨k, rfl⟩ : ∃ q, k = q + 1 := ⟨k - 1, by omega⟩
    have hw : wrap64 ((i : Int) + 1) = ((i + 1 : Nat) : Int) := by unfold wrap64; omega
    have hll : (toldS (cut n) ws i).length < 17592186044416 := by rw [toldS_length]; omega
    have hih := ih k (i + 1) (by omega) (by omega)
    rw [clerestoryref3_Share.l1, if_pos (by omega), hw]
    by_cases hz : psum ws ws.length = 0
    · rw [if_pos hz, if_pos hll]
      have e : toldS (cut n) ws i ++ [0] = toldS (cut n) ws (i + 1) := by
        unfold toldS
        rw [if_pos hz, if_pos hz]
        simp [List.replicate_succ']
      rw [e]
      exact hih
    · have hpos : 0 < psum ws ws.length := by have := (psum_le ws ws.length).1; omega
      have p1 := psum_le ws i
      have p2 := psum_le ws (i + 1)
      have b1 := part_le n (psum ws i) p1.1 p1.2.1
      have b2 := part_le n (psum ws (i + 1)) p2.1 p2.2.1
      have c1 := fdiv_le (cut n * psum ws i) _ hpos
      have c2 := fdiv_le (cut n * psum ws (i + 1)) _ hpos
      rw [if_neg hz, if_pos (by omega), if_pos (by rw [ps_length]; omega), ps_rd _ _ _ (by omega), ps_rd _ _ _ (by omega)]
      have w1 : wrap64 (cut n * psum ws (i + 1)) = cut n * psum ws (i + 1) := by unfold wrap64; omega
      have w2 : wrap64 (cut n * psum ws i) = cut n * psum ws i := by unfold wrap64; omega
      rw [w1, w2, down_b _ _ (by omega) (by omega) hpos, down_b _ _ (by omega) (by omega) hpos]
      simp only [Option.bind_some]
      rw [if_pos (by omega), if_pos (by rw [ps_length]; omega), if_pos hll]
      have w3 : wrap64 ((cut n * psum ws (i + 1)).fdiv (psum ws ws.length) - (cut n * psum ws i).fdiv (psum ws ws.length)) = (cut n * psum ws (i + 1)).fdiv (psum ws ws.length) - (cut n * psum ws i).fdiv (psum ws ws.length) := by unfold wrap64; omega
      have e : toldS (cut n) ws i ++ [(cut n * psum ws (i + 1)).fdiv (psum ws ws.length) - (cut n * psum ws i).fdiv (psum ws ws.length)] = toldS (cut n) ws (i + 1) := by
        unfold toldS
        rw [if_neg hz, if_neg hz, shared_snoc]
      rw [w3, e]
      exact hih
theorem share_l0 (n : Int) (ws : List Int) (hl : ws.length * 8 ≤ 140737488351232) (d : Nat) : ∀ (k i : Nat), i + d = ws.length → d + ws.length + 1 < k →
    clerestoryref3_Share.l0 k (cut n) ws (ps ws i) ws (ws.length : Int) (i : Int) = some (toldS (cut n) ws ws.length) := by
  induction d with
  | zero =>
    intro k i h hk
    obtain ⟨k, rfl⟩ : ∃ q, k = q + 1 := ⟨k - 1, by omega⟩
    obtain rfl : i = ws.length := by omega
    rw [clerestoryref3_Share.l0, if_neg (by omega), if_pos (by omega), if_pos (by rw [ps_length]; omega), ps_rd _ _ _ (Nat.le_refl _)]
    have h0 := share_l1 n ws hl ws.length k 0 (by omega) (by omega)
    have e : toldS (cut n) ws 0 = [] := List.eq_nil_of_length_eq_zero (toldS_length _ _ _)
    rw [e] at h0
    exact h0
  | succ d ih =>
    intro k i h hk
    obtain ⟨k, rfl⟩ : ∃ q, k = q + 1 := ⟨k - 1, by omega⟩
    have hw : wrap64 ((i : Int) + 1) = ((i + 1 : Nat) : Int) := by unfold wrap64; omega
    have hll : (ps ws i).length < 17592186044416 := by rw [ps_length]; omega
    have hll2 : (i : Int) < ((ps ws i).length : Int) := by rw [ps_length]; omega
    have p1 := psum_le ws i
    have p2 := (psum_le ws (i + 1)).2.1
    have q := wt_le ws i
    have hcut := cut_le (rd ws i)
    have hih := ih k (i + 1) (by omega) (by omega)
    rw [ps_snoc] at hih
    rw [clerestoryref3_Share.l0, if_pos (by omega), if_pos (by omega), if_pos (by omega), cut_b, hw]
    simp only [Option.bind_some]
    rw [if_pos hll2, if_pos hll, if_pos hll2, if_pos hll, ps_rd _ _ _ (Nat.le_refl _)]
    have w1 : wrap64 (psum ws i) = psum ws i := by unfold wrap64; omega
    have w2 : wrap64 (psum ws i + cut (rd ws i)) = psum ws i + cut (rd ws i) := by unfold wrap64; omega
    rw [w1, w2]
    by_cases h1 : cut (rd ws i) < 0
    · rw [if_pos h1]
      have e : wt ws i = 0 := by
        unfold wt mx
        split
        · rfl
        · rw [if_neg (by omega)]
      rw [e, Int.add_zero] at hih
      exact hih
    · rw [if_neg h1]
      by_cases h2 : (i : Int) ≥ 1000
      · rw [if_pos h2]
        have e : wt ws i = 0 := by
          unfold wt
          rw [if_pos h2]
        rw [e, Int.add_zero] at hih
        exact hih
      · rw [if_neg h2]
        have e : wt ws i = cut (rd ws i) := by
          unfold wt mx
          rw [if_neg h2]
          split <;> omega
        rw [e] at hih
        exact hih
theorem share_b (n : Int) (ws : List Int) (hl : ws.length * 8 ≤ 140737488351232) (k : Nat) (hk : 2 * ws.length + 2 ≤ k) : clerestoryref3_Share.f k n ws = some (share n ws) := by
  unfold clerestoryref3_Share.f
  rw [cut_b]
  have h := share_l0 n ws hl ws.length k 0 (by omega) (by omega)
  simp only [Option.bind_some]
  have e : toldS (cut n) ws ws.length = share n ws := by
    unfold toldS share
    rfl
  rw [← e]
  exact h
theorem rshare_calls (c : Int) (A : Option Addr) (cap : Nat) (ws : List Int) (w : World) (hr : (Kd.int .i64).C w A ws.length ws) (hc : ws.length ≤ cap) (hl : ws.length ≤ 50) :
    Calls Try.prog 77 #[.int .i64 c, .slice A ws.length cap] w fun e w' => ∃ v : Value, e = .returned v ∧ Kd.R (Kd.int .i64) 3 w' w.heap.size (fun _ => True) v (share c ws) ∧ Below w.heap.size w w' :=
  clerestoryref3_Share.calls 200 c A cap ws (share c ws) w hr hc (share_b c ws (by omega) 200 (by omega))
end Go.Proofs.Ytaejmgdpnnhpmaa.QFlex
