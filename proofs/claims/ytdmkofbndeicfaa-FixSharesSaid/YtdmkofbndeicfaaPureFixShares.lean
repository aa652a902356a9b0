/- FixShares in plain Lean: the reference's Share tells the same list as what fix.Share tells, and Eq tells that they are the same. -/
import Derived.Test.YtdmkofbndeicfaaShare
import Derived.Test.YtdmkofbndeicfaaRefShare
import Derived.Test.YtdmkofbndeicfaaOpen
namespace Go.Proofs.Ytdmkofbndeicfaa.PFixShares
open Go.RowKit Go.Proofs.YtdmkofbndeicfaaW.PrintWords Go.Proofs.YtdmkofbndeicfaaW.PrintLast Go.Proofs.YtdmkofbndeicfaaW.PrintMore
/-- The sums of the weights, the first i of them. -/
def ps (ws : List Int) (i : Nat) : List Int := (List.range (i + 1)).map (psum ws)
theorem ps_length (ws : List Int) (i : Nat) : (ps ws i).length = i + 1 := by simp [ps]
theorem ps_rd (ws : List Int) (m j : Nat) (h : j ≤ m) : rd (ps ws m) (j : Int) = psum ws j := by
  simp [rd, ps, List.getElem?_range (show j < m + 1 by omega)]
theorem ps_snoc (ws : List Int) (i : Nat) : ps ws (i + 1) = ps ws i ++ [psum ws i + wt ws i] := by
  simp [ps, List.range_succ (n := i + 1), psum]
/-- What is told so far. -/
def told (n : Int) (ws : List Int) (i : Nat) : List Int := if psum ws ws.length = 0 then List.replicate i 0 else shared n ws i
theorem told_length (n : Int) (ws : List Int) (i : Nat) : (told n ws i).length = i := by unfold told; split <;> simp [shared]
theorem share_l1 (n : Int) (ws : List Int) (hl : ws.length * 8 ≤ 140737488351232) (d : Nat) : ∀ (k i : Nat), i + d = ws.length → d < k →
    clerestoryref3_Share.l1 k (cut n) (ps ws ws.length) (psum ws ws.length) (told (cut n) ws i) (ws.length : Int) (i : Int) = some (told (cut n) ws ws.length) := by
  induction d with
  | zero =>
    intro k i h hk
    obtain ⟨k, rfl⟩ : ∃ q, k = q + 1 := ⟨k - 1, by omega⟩
    obtain rfl : i = ws.length := by omega
    rw [clerestoryref3_Share.l1, if_neg (by omega)]
  | succ d ih =>
    intro k i h hk
    obtain ⟨k, rfl⟩ : ∃ q, k = q + 1 := ⟨k - 1, by omega⟩
    have hw : wrap64 ((i : Int) + 1) = ((i + 1 : Nat) : Int) := by unfold wrap64; omega
    have hll : (told (cut n) ws i).length < 17592186044416 := by rw [told_length]; omega
    have hih := ih k (i + 1) (by omega) (by omega)
    rw [clerestoryref3_Share.l1, if_pos (by omega), hw]
    by_cases hz : psum ws ws.length = 0
    · rw [if_pos hz, if_pos hll]
      have e : told (cut n) ws i ++ [0] = told (cut n) ws (i + 1) := by
        unfold told
        rw [if_pos hz, if_pos hz]
        simp [List.replicate_succ']
      rw [e]
      exact hih
    · have hpos : 0 < psum ws ws.length := by have := (psum_le ws ws.length).1; omega
      have p1 := psum_le ws i
      have p2 := psum_le ws (i + 1)
      have b1 := part_le n (psum ws i) p1.1 p1.2.1
      have b2 := part_le n (psum ws (i + 1)) p2.1 p2.2.1
      have c1 := fdiv_le (cut n * psum ws i) _ hpos
      have c2 := fdiv_le (cut n * psum ws (i + 1)) _ hpos
      rw [if_neg hz, if_pos (by omega), if_pos (by rw [ps_length]; omega), ps_rd _ _ _ (by omega), ps_rd _ _ _ (by omega)]
      have w1 : wrap64 (cut n * psum ws (i + 1)) = cut n * psum ws (i + 1) := by unfold wrap64; omega
      have w2 : wrap64 (cut n * psum ws i) = cut n * psum ws i := by unfold wrap64; omega
      rw [w1, w2, down_b _ _ (by omega) (by omega) hpos, down_b _ _ (by omega) (by omega) hpos]
      simp only [Option.bind_some]
      rw [if_pos (by omega), if_pos (by rw [ps_length]; omega), if_pos hll]
      have w3 : wrap64 ((cut n * psum ws (i + 1)).fdiv (psum ws ws.length) - (cut n * psum ws i).fdiv (psum ws ws.length)) = (cut n * psum ws (i + 1)).fdiv (psum ws ws.length) - (cut n * psum ws i).fdiv (psum ws ws.length) := by unfold wrap64; omega
      have e : told (cut n) ws i ++ [(cut n * psum ws (i + 1)).fdiv (psum ws ws.length) - (cut n * psum ws i).fdiv (psum ws ws.length)] = told (cut n) ws (i + 1) := by
        unfold told
        rw [if_neg hz, if_neg hz, shared_snoc]
      rw [w3, e]
      exact hih
theorem share_l0 (n : Int) (ws : List Int) (hl : ws.length * 8 ≤ 140737488351232) (d : Nat) : ∀ (k i : Nat), i + d = ws.length → d + ws.length + 1 < k →
    clerestoryref3_Share.l0 k (cut n) ws (ps ws i) ws (ws.length : Int) (i : Int) = some (told (cut n) ws ws.length) := by
  induction d with
  | zero =>
    intro k i h hk
    obtain ⟨k, rfl⟩ : ∃ q, k = q + 1 := ⟨k - 1, by omega⟩
    obtain rfl : i = ws.length := by omega
    rw [clerestoryref3_Share.l0, if_neg (by omega), if_pos (by omega), if_pos (by rw [ps_length]; omega), ps_rd _ _ _ (Nat.le_refl _)]
    have h0 := share_l1 n ws hl ws.length k 0 (by omega) (by omega)
    have e : told (cut n) ws 0 = [] := List.eq_nil_of_length_eq_zero (told_length _ _ _)
    rw [e] at h0
    exact h0
  | succ d ih =>
    intro k i h hk
    obtain ⟨k, rfl⟩ : ∃ q, k = q + 1 := ⟨k - 1, by omega⟩
    have hw : wrap64 ((i : Int) + 1) = ((i + 1 : Nat) : Int) := by unfold wrap64; omega
    have hll : (ps ws i).length < 17592186044416 := by rw [ps_length]; omega
    have hll2 : (i : Int) < ((ps ws i).length : Int) := by rw [ps_length]; omega
    have p1 := psum_le ws i
    have p2 := (psum_le ws (i + 1)).2.1
    have q := wt_le ws i
    have hcut := cut_le (rd ws i)
    have hih := ih k (i + 1) (by omega) (by omega)
    rw [ps_snoc] at hih
    rw [clerestoryref3_Share.l0, if_pos (by omega), if_pos (by omega), if_pos (by omega), cut_b, hw]
    simp only [Option.bind_some]
    rw [if_pos hll2, if_pos hll, if_pos hll2, if_pos hll, ps_rd _ _ _ (Nat.le_refl _)]
    have w1 : wrap64 (psum ws i) = psum ws i := by unfold wrap64; omega
    have w2 : wrap64 (psum ws i + cut (rd ws i)) = psum ws i + cut (rd ws i) := by unfold wrap64; omega
    rw [w1, w2]
    by_cases h1 : cut (rd ws i) < 0
    · rw [if_pos h1]
      have e : wt ws i = 0 := by
        unfold wt mx
        split
        · rfl
        · rw [if_neg (by omega)]
      rw [e, Int.add_zero] at hih
      exact hih
    · rw [if_neg h1]
      by_cases h2 : (i : Int) ≥ 1000
      · rw [if_pos h2]
        have e : wt ws i = 0 := by
          unfold wt
          rw [if_pos h2]
        rw [e, Int.add_zero] at hih
        exact hih
      · rw [if_neg h2]
        have e : wt ws i = cut (rd ws i) := by
          unfold wt mx
          rw [if_neg h2]
          split <;> omega
        rw [e] at hih
        exact hih
theorem share_b (n : Int) (ws : List Int) (hl : ws.length * 8 ≤ 140737488351232) : clerestoryref3_Share.f (2 * ws.length + 2) n ws = some (share n ws) := by
  unfold clerestoryref3_Share.f
  rw [cut_b]
  have h := share_l0 n ws hl ws.length (2 * ws.length + 2) 0 (by omega) (by omega)
  simp only [Option.bind_some]
  have e : told (cut n) ws ws.length = share n ws := by
    unfold told share
    rfl
  rw [← e]
  exact h
theorem share_length (n : Int) (ws : List Int) : (share n ws).length = ws.length := by
  unfold share
  split <;> simp [shared]
theorem eq_l0 (l : List Int) (hl : l.length * 8 ≤ 140737488351232) (d : Nat) : ∀ (k i : Nat), i + d = l.length → d < k → clerestoryref3_Eq_int.l0 k l l (l.length : Int) (i : Int) = some true := by
  induction d with
  | zero =>
    intro k i h hk
    obtain ⟨k, rfl⟩ : ∃ q, k = q + 1 := ⟨k - 1, by omega⟩
    rw [clerestoryref3_Eq_int.l0, if_neg (by omega)]
  | succ d ih =>
    intro k i h hk
    obtain ⟨k, rfl⟩ : ∃ q, k = q + 1 := ⟨k - 1, by omega⟩
    have hw : wrap64 ((i : Int) + 1) = ((i + 1 : Nat) : Int) := by unfold wrap64; omega
    rw [clerestoryref3_Eq_int.l0, if_pos (by omega), if_pos (by omega), if_pos (by omega), if_pos (by omega), if_pos rfl, hw]
    exact ih k (i + 1) (by omega) (by omega)
theorem eq_self (l : List Int) (hl : l.length * 8 ≤ 140737488351232) : clerestoryref3_Eq_int.f (l.length + 1) l l = some true := by
  unfold clerestoryref3_Eq_int.f
  rw [if_pos rfl]
  exact eq_l0 l hl l.length _ 0 (by omega) (by omega)
attribute [local go_sem] max2_int min2_int max_two min_two max_three min_three max_four min_four
set_option linter.unusedVariables false
theorem fixed_true : clerestorylaw3_fixed.f = some true := by
  have e1 : fix_Part.f 7 1 2 = some 3 := by decide +kernel
  have e2 : fix_Part.f (-7) 1 2 = some (-4) := by decide +kernel
  unfold clerestorylaw3_fixed.f
  rw [e1, e2]
  rfl
set_option maxHeartbeats 8000000 in
set_option maxRecDepth 100000 in
theorem FixShares.walk (n : Int) (a1 : Option Addr) (len1 cap1 : Nat) (z1 : List Int) (w : World) (w0 : (Lit.int .i64 n).wf = true) (w1 : Open.IsRow .i64 w a1 len1 cap1 z1) (y1 : len1 * 8 ≤ 140737488351232) :
    Calls Try.prog 8 #[.int .i64 n, .slice a1 len1 cap1] w fun e w' => e = .returned (.bool true) ∧ Below w.heap.size w w' := by
  obtain ⟨ws, rfl, hr1, hm1, hw1, hc1⟩ := ReadsInt.ofRowC w1
  have HR : Aside0 (Kd.C (Kd.int .i64) w a1 ws.length ws) := ⟨Kd.C_of_reads (d := (0 : Int)) (h1 := fun _ => rfl) hr1⟩
  clear hr1 w1 w0 hm1 hw1
  go_enter Try.func8, Try.ntmps8
  go_wp2_with (first
    | (go_at_call 17; (with_reducible refine (clerestorylaw3_fixed.calls true _ fixed_true).mono ?_); rintro e w1 ⟨rfl, hb⟩; have HB1 := Aside0.mk hb; clear hb)
    | (go_at_call 33; (with_reducible refine (fix_Share.walk n a1 cap1 ws _ (Kd.C_below HR.out HB1.out) hc1 y1).mono ?_); rintro e w2 ⟨v2, rfl, ho, hb⟩; have HO2 := Aside0.mk ho; have HB2 := Aside0.mk (below_step HB1.out hb); clear hb ho; obtain ⟨A2, c2, e2, hc2, HR2⟩ := Kd.R_reads HO2.out; subst e2; replace HR2 := Aside0.mk HR2)
    | (go_at_call 34; (with_reducible refine (clerestoryref3_Share.calls (2 * ws.length + 2) n a1 cap1 ws (share n ws) _ (Kd.C_below HR.out HB2.out) hc1 (share_b n ws y1)).mono ?_); rintro e w3 ⟨v3, rfl, ho, hb⟩; have HO3 := Aside0.mk ho; have HR2' := Aside0.mk (Kd.C_below HR2.out hb); have HB3 := Aside0.mk (below_step HB2.out hb); clear hb ho; obtain ⟨A3, c3, e3, hc3, HR3⟩ := Kd.R_reads HO3.out; subst e3; replace HR3 := Aside0.mk HR3)
    | (go_at_call 32; (with_reducible refine (clerestoryref3_Eq_int.calls ((share n ws).length + 1) A2 c2 (share n ws) A3 c3 (share n ws) true _ HR2'.out hc2 HR3.out hc3 (eq_self _ (by rw [share_length]; exact y1))).mono ?_); rintro e w4 ⟨rfl, hb⟩; replace hb := hb.below; have HB4 := Aside0.mk (below_step HB3.out hb); clear hb))
  go_ret
  exact ⟨rfl, HB4.out⟩
end Go.Proofs.Ytdmkofbndeicfaa.PFixShares
