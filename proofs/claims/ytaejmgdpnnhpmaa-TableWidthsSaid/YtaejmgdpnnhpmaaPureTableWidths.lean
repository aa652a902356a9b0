/- TableWidths in plain Lean: both tell the same widths. -/
import Derived.Test.YtaejmgdpnnhpmaaQTableWidthsx6
namespace Go.Proofs.Ytaejmgdpnnhpmaa.Pure
open Go.RowKit Go.Proofs.Ytaejmgdpnnhpmaa.QTableWidths Go.Proofs.YtaejmgdpnnhpmaaW.PrintWords Go.Proofs.YtaejmgdpnnhpmaaW.PrintLast
set_option linter.unusedVariables false
set_option linter.unusedSimpArgs false
namespace Widths
/-- The sums of the weights, the first i of them. -/
def ps (ws : List Int) (i : Nat) : List Int := (List.range (i + 1)).map (psum ws)
theorem ps_length (ws : List Int) (i : Nat) : (ps ws i).length = i + 1 := by simp [ps]
theorem ps_rd (ws : List Int) (m j : Nat) (h : j ≤ m) : rd (ps ws m) (j : Int) = psum ws j := by
  simp [rd, ps, List.getElem?_range (show j < m + 1 by omega)]
theorem ps_snoc (ws : List Int) (i : Nat) : ps ws (i + 1) = ps ws i ++ [psum ws i + wt ws i] := by
  simp [ps, List.range_succ (n := i + 1), psum]
/-- What is told so far. -/
def told (n : Int) (ws : List Int) (i : Nat) : List Int := if psum ws ws.length = 0 then List.replicate i 0 else shared n ws i
theorem told_length (n : Int) (ws : List Int) (i : Nat) : (told n ws i).length = i := by unfold told; split <;> simp [shared]
theorem share_l1 (n : Int) (ws : List Int) (hl : ws.length * 8 ≤ 140737488351232) (d : Nat) : ∀ (k i : Nat), i + d = ws.length → d < k →
    clerestoryref3_Share.l1 k (cut n) (ps ws ws.length) (psum ws ws.length) (told (cut n) ws i) (ws.length : Int) (i : Int) = some (told (cut n) ws ws.length) := by
  induction d with
  | zero =>
    intro k i h hk
    obtain ⟨k, rfl⟩ : ∃ q, k = q + 1 := ⟨k - 1, by omega⟩
    obtain rfl : i = ws.length := by omega
    rw [clerestoryref3_Share.l1, if_neg (by omega)]
  | succ d ih =>
    intro k i h hk
    obtain ⟨k, rfl⟩ : ∃ q, k = q + 1 := ⟨k - 1, by omega⟩
    have hw : wrap64 ((i : Int) + 1) = ((i + 1 : Nat) : Int) := by unfold wrap64; omega
    have hll : (told (cut n) ws i).length < 17592186044416 := by rw [told_length]; omega
    have hih := ih k (i + 1) (by omega) (by omega)
    rw [clerestoryref3_Share.l1, if_pos (by omega), hw]
    by_cases hz : psum ws ws.length = 0
    · rw [if_pos hz, if_pos hll]
      have e : told (cut n) ws i ++ [0] = told (cut n) ws (i + 1) := by
        unfold told
        rw [if_pos hz, if_pos hz]
        simp [List.replicate_succ']
      rw [e]
      exact hih
    · have hpos : 0 < psum ws ws.length := by have := (psum_le ws ws.length).1; omega
      have p1 := psum_le ws i
      have p2 := psum_le ws (i + 1)
      have b1 := part_le n (psum ws i) p1.1 p1.2.1
      have b2 := part_le n (psum ws (i + 1)) p2.1 p2.2.1
      have c1 := fdiv_le (cut n * psum ws i) _ hpos
      have c2 := fdiv_le (cut n * psum ws (i + 1)) _ hpos
      rw [if_neg hz, if_pos (by omega), if_pos (by rw [ps_length]; omega), ps_rd _ _ _ (by omega), ps_rd _ _ _ (by omega)]
      have w1 : wrap64 (cut n * psum ws (i + 1)) = cut n * psum ws (i + 1) := by unfold wrap64; omega
      have w2 : wrap64 (cut n * psum ws i) = cut n * psum ws i := by unfold wrap64; omega
      rw [w1, w2, down_b _ _ (by omega) (by omega) hpos, down_b _ _ (by omega) (by omega) hpos]
      simp only [Option.bind_some]
      rw [if_pos (by omega), if_pos (by rw [ps_length]; omega), if_pos hll]
      have w3 : wrap64 ((cut n * psum ws (i + 1)).fdiv (psum ws ws.length) - (cut n * psum ws i).fdiv (psum ws ws.length)) = (cut n * psum ws (i + 1)).fdiv (psum ws ws.length) - (cut n * psum ws i).fdiv (psum ws ws.length) := by unfold wrap64; omega
      have e : told (cut n) ws i ++ [(cut n * psum ws (i + 1)).fdiv (psum ws ws.length) - (cut n * psum ws i).fdiv (psum ws ws.length)] = told (cut n) ws (i + 1) := by
        unfold told
        rw [if_neg hz, if_neg hz, shared_snoc]
      rw [w3, e]
      exact hih
theorem share_l0 (n : Int) (ws : List Int) (hl : ws.length * 8 ≤ 140737488351232) (d : Nat) : ∀ (k i : Nat), i + d = ws.length → d + ws.length + 1 < k →
    clerestoryref3_Share.l0 k (cut n) ws (ps ws i) ws (ws.length : Int) (i : Int) = some (told (cut n) ws ws.length) := by
  induction d with
  | zero =>
    intro k i h hk
    obtain ⟨k, rfl⟩ : ∃ q, k = q + 1 := ⟨k - 1, by omega⟩
    obtain rfl : i = ws.length := by omega
    rw [clerestoryref3_Share.l0, if_neg (by omega), if_pos (by omega), if_pos (by rw [ps_length]; omega), ps_rd _ _ _ (Nat.le_refl _)]
    have h0 := share_l1 n ws hl ws.length k 0 (by omega) (by omega)
    have e : told (cut n) ws 0 = [] := List.eq_nil_of_length_eq_zero (told_length _ _ _)
    rw [e] at h0
    exact h0
  | succ d ih =>
    intro k i h hk
    obtain ⟨k, rfl⟩ : ∃ q, k = q + 1 := ⟨k - 1, by omega⟩
    have hw : wrap64 ((i : Int) + 1) = ((i + 1 : Nat) : Int) := by unfold wrap64; omega
    have hll : (ps ws i).length < 17592186044416 := by rw [ps_length]; omega
    have hll2 : (i : Int) < ((ps ws i).length : Int) := by rw [ps_length]; omega
    have p1 := psum_le ws i
    have p2 := (psum_le ws (i + 1)).2.1
    have q := wt_le ws i
    have hcut := cut_le (rd ws i)
    have hih := ih k (i + 1) (by omega) (by omega)
    rw [ps_snoc] at hih
    rw [clerestoryref3_Share.l0, if_pos (by omega), if_pos (by omega), if_pos (by omega), cut_b, hw]
    simp only [Option.bind_some]
    rw [if_pos hll2, if_pos hll, if_pos hll2, if_pos hll, ps_rd _ _ _ (Nat.le_refl _)]
    have w1 : wrap64 (psum ws i) = psum ws i := by unfold wrap64; omega
    have w2 : wrap64 (psum ws i + cut (rd ws i)) = psum ws i + cut (rd ws i) := by unfold wrap64; omega
    rw [w1, w2]
    by_cases h1 : cut (rd ws i) < 0
    · rw [if_pos h1]
      have e : wt ws i = 0 := by
        unfold wt mx
        split
        · rfl
        · rw [if_neg (by omega)]
      rw [e, Int.add_zero] at hih
      exact hih
    · rw [if_neg h1]
      by_cases h2 : (i : Int) ≥ 1000
      · rw [if_pos h2]
        have e : wt ws i = 0 := by
          unfold wt
          rw [if_pos h2]
        rw [e, Int.add_zero] at hih
        exact hih
      · rw [if_neg h2]
        have e : wt ws i = cut (rd ws i) := by
          unfold wt mx
          rw [if_neg h2]
          split <;> omega
        rw [e] at hih
        exact hih
theorem share_b (n : Int) (ws : List Int) (hl : ws.length * 8 ≤ 140737488351232) (k : Nat) (hk : 2 * ws.length + 2 ≤ k) : clerestoryref3_Share.f k n ws = some (share n ws) := by
  unfold clerestoryref3_Share.f
  rw [cut_b]
  have h := share_l0 n ws hl ws.length k 0 (by omega) (by omega)
  simp only [Option.bind_some]
  have e : told (cut n) ws ws.length = share n ws := by
    unfold told share
    rfl
  rw [← e]
  exact h
theorem share_length (n : Int) (ws : List Int) : (share n ws).length = ws.length := by
  unfold share
  split <;> simp [shared]
theorem eq_l0 (l : List Int) (hl : l.length * 8 ≤ 140737488351232) (d : Nat) : ∀ (k i : Nat), i + d = l.length → d < k → clerestoryref3_Eq_int.l0 k l l (l.length : Int) (i : Int) = some true := by
  induction d with
  | zero =>
    intro k i h hk
    obtain ⟨k, rfl⟩ : ∃ q, k = q + 1 := ⟨k - 1, by omega⟩
    rw [clerestoryref3_Eq_int.l0, if_neg (by omega)]
  | succ d ih =>
    intro k i h hk
    obtain ⟨k, rfl⟩ : ∃ q, k = q + 1 := ⟨k - 1, by omega⟩
    have hw : wrap64 ((i : Int) + 1) = ((i + 1 : Nat) : Int) := by unfold wrap64; omega
    rw [clerestoryref3_Eq_int.l0, if_pos (by omega), if_pos (by omega), if_pos (by omega), if_pos (by omega), if_pos rfl, hw]
    exact ih k (i + 1) (by omega) (by omega)
theorem eq_self (l : List Int) (hl : l.length * 8 ≤ 140737488351232) (k : Nat) (hk : l.length < k) : clerestoryref3_Eq_int.f k l l = some true := by
  unfold clerestoryref3_Eq_int.f
  rw [if_pos rfl]
  exact eq_l0 l hl l.length k 0 (by omega) hk
def lst (f : Nat → Int) (n : Nat) : List Int := (List.range n).map f
theorem len_lst (f : Nat → Int) (n : Nat) : (lst f n).length = n := by simp [lst]
theorem rd_lst (f : Nat → Int) (n i : Nat) (h : i < n) : rd (lst f n) (i : Int) = f i := by
  simp [rd, lst, List.getElem?_range h]
theorem lst_congr {f g : Nat → Int} {n : Nat} (h : ∀ j, j < n → f j = g j) : lst f n = lst g n := by
  unfold lst
  exact List.map_congr_left (fun j hj => h j (List.mem_range.mp hj))
theorem lst_snoc (f : Nat → Int) (n : Nat) : lst f n ++ [f n] = lst f (n + 1) := by simp [lst, List.range_succ]
theorem lst_set (f : Nat → Int) (n i : Nat) (v : Int) : (lst f n).set i v = lst (fun j => if j = i then v else f j) n := by
  apply List.ext_getElem
  · simp [lst]
  · intro j h1 h2
    simp only [lst, List.getElem_set, List.getElem_map, List.getElem_range]
    by_cases h : i = j
    · rw [if_pos h, if_pos h.symm]
    · rw [if_neg h, if_neg (fun e => h e.symm)]
theorem lst_of (l : List Int) : l = lst (fun j => rd l (j : Int)) l.length := by
  apply List.ext_getElem
  · simp [lst]
  · intro j h1 h2
    simp [lst, rd, h1]
theorem lst_rep (n : Nat) (v : Int) : List.replicate n v = lst (fun _ => v) n := by
  apply List.ext_getElem
  · simp [lst]
  · intro j h1 h2
    simp [lst]
def mix (new old : Nat → Int) (i j : Nat) : Int := if j < i then new j else old j
theorem mix_set (new old : Nat → Int) (n i : Nat) (v : Int) (hv : v = new i) : (lst (mix new old i) n).set i v = lst (mix new old (i + 1)) n := by
  rw [lst_set]
  refine lst_congr (fun j _ => ?_)
  unfold mix
  by_cases h : j = i
  · subst h; rw [if_pos rfl, if_pos (by omega), hv]
  · rw [if_neg h]
    by_cases h2 : j < i
    · rw [if_pos h2, if_pos (by omega)]
    · rw [if_neg h2, if_neg (by omega)]
theorem mix_rd (new old : Nat → Int) (n i : Nat) (h : i < n) : rd (lst (mix new old i) n) (i : Int) = old i := by
  rw [rd_lst _ _ _ h]; unfold mix; rw [if_neg (by omega)]
theorem mix_rd1 (new old : Nat → Int) (n i : Nat) (h : i < n) : rd (lst (mix new old (i + 1)) n) (i : Int) = new i := by
  rw [rd_lst _ _ _ h]; unfold mix; rw [if_pos (by omega)]
theorem mix_all (new old : Nat → Int) (n : Nat) : lst (mix new old n) n = lst new n := lst_congr (fun j h => by unfold mix; rw [if_pos h])
theorem mix_zero (new old : Nat → Int) (n : Nat) : lst (mix new old 0) n = lst old n := lst_congr (fun j h => by unfold mix; rw [if_neg (by omega)])
theorem step (i : Nat) (h : i ≤ 1000) : wrap64 ((i : Int) + 1) = ((i + 1 : Nat) : Int) := by unfold wrap64; omega
theorem ta1 (x y : Nat → Int) (N : Nat) (hN : N ≤ 100) (d : Nat) : ∀ (k i : Nat), i + d = N → d < k →
    table_Widths.l1 k (lst (mix (fun j => mx (x j) (y j)) x i) N) (lst y N) (N : Int) (i : Int) = some (lst (fun j => mx (x j) (y j)) N) := by
  induction d with
  | zero =>
    intro k i h hk
    obtain ⟨k, rfl⟩ : ∃ q, k = q + 1 := ⟨k - 1, by omega⟩
    obtain rfl : i = N := by omega
    rw [table_Widths.l1, if_neg (by omega), mix_all]
  | succ d ih =>
    intro k i h hk
    obtain ⟨k, rfl⟩ : ∃ q, k = q + 1 := ⟨k - 1, by omega⟩
    have hi : i < N := by omega
    have hih := ih k (i + 1) (by omega) (by omega)
    rw [table_Widths.l1, if_pos (by omega), if_pos (by omega), if_pos (by rw [len_lst]; omega), if_pos (by rw [len_lst]; omega), step i (by omega), Int.toNat_natCast, mix_rd _ _ _ _ hi, rd_lst y _ _ hi]
    rw [mix_set (fun j => mx (x j) (y j)) x N i _ rfl]
    exact hih
theorem ta2 (x y : Nat → Int) (N : Nat) (hN : N ≤ 100) (d : Nat) : ∀ (k i : Nat), i + d = N → d < k →
    table_Widths.l2 k (lst (mix (fun j => wrap64 (x j + y j)) x i) N) (lst y N) (N : Int) (i : Int) = some (lst (fun j => wrap64 (x j + y j)) N) := by
  induction d with
  | zero =>
    intro k i h hk
    obtain ⟨k, rfl⟩ : ∃ q, k = q + 1 := ⟨k - 1, by omega⟩
    obtain rfl : i = N := by omega
    rw [table_Widths.l2, if_neg (by omega), mix_all]
  | succ d ih =>
    intro k i h hk
    obtain ⟨k, rfl⟩ : ∃ q, k = q + 1 := ⟨k - 1, by omega⟩
    have hi : i < N := by omega
    have hih := ih k (i + 1) (by omega) (by omega)
    rw [table_Widths.l2, if_pos (by omega), if_pos (by omega), if_pos (by rw [len_lst]; omega), if_pos (by rw [len_lst]; omega), step i (by omega), Int.toNat_natCast, mix_rd _ _ _ _ hi, rd_lst y _ _ hi]
    rw [mix_set (fun j => wrap64 (x j + y j)) x N i _ rfl]
    exact hih
theorem re1 (x y : Nat → Int) (N : Nat) (hN : N ≤ 100) (d : Nat) : ∀ (k i : Nat), i + d = N → d < k →
    clerestoryref3_Widths.l1 k (lst (mix (fun j => mx (x j) (y j)) x i) N) (lst y N) (N : Int) (i : Int) = some (lst (fun j => mx (x j) (y j)) N) := by
  induction d with
  | zero =>
    intro k i h hk
    obtain ⟨k, rfl⟩ : ∃ q, k = q + 1 := ⟨k - 1, by omega⟩
    obtain rfl : i = N := by omega
    rw [clerestoryref3_Widths.l1, if_neg (by omega), mix_all]
  | succ d ih =>
    intro k i h hk
    obtain ⟨k, rfl⟩ : ∃ q, k = q + 1 := ⟨k - 1, by omega⟩
    have hi : i < N := by omega
    have hih := ih k (i + 1) (by omega) (by omega)
    rw [clerestoryref3_Widths.l1, if_pos (by omega), if_pos (by omega), if_pos (by rw [len_lst]; omega), if_pos (by rw [len_lst]; omega), step i (by omega), Int.toNat_natCast, mix_rd _ _ _ _ hi, rd_lst y _ _ hi]
    rw [mix_set (fun j => mx (x j) (y j)) x N i _ rfl]
    exact hih
theorem re2 (x y : Nat → Int) (N : Nat) (hN : N ≤ 100) (d : Nat) : ∀ (k i : Nat), i + d = N → d < k →
    clerestoryref3_Widths.l2 k (lst (mix (fun j => wrap64 (x j + y j)) x i) N) (lst y N) (N : Int) (i : Int) = some (lst (fun j => wrap64 (x j + y j)) N) := by
  induction d with
  | zero =>
    intro k i h hk
    obtain ⟨k, rfl⟩ : ∃ q, k = q + 1 := ⟨k - 1, by omega⟩
    obtain rfl : i = N := by omega
    rw [clerestoryref3_Widths.l2, if_neg (by omega), mix_all]
  | succ d ih =>
    intro k i h hk
    obtain ⟨k, rfl⟩ : ∃ q, k = q + 1 := ⟨k - 1, by omega⟩
    have hi : i < N := by omega
    have hih := ih k (i + 1) (by omega) (by omega)
    rw [clerestoryref3_Widths.l2, if_pos (by omega), if_pos (by omega), if_pos (by rw [len_lst]; omega), if_pos (by rw [len_lst]; omega), step i (by omega), Int.toNat_natCast, mix_rd _ _ _ _ hi, rd_lst y _ _ hi]
    rw [mix_set (fun j => wrap64 (x j + y j)) x N i _ rfl]
    exact hih
theorem re3 (x y : Nat → Int) (N : Nat) (hN : N ≤ 100) (d : Nat) : ∀ (k i : Nat), i + d = N → d < k →
    clerestoryref3_Widths.l3 k (lst (mix (fun j => wrap64 (x j + y j)) x i) N) (lst y N) (N : Int) (i : Int) = some (lst (fun j => wrap64 (x j + y j)) N) := by
  induction d with
  | zero =>
    intro k i h hk
    obtain ⟨k, rfl⟩ : ∃ q, k = q + 1 := ⟨k - 1, by omega⟩
    obtain rfl : i = N := by omega
    rw [clerestoryref3_Widths.l3, if_neg (by omega), mix_all]
  | succ d ih =>
    intro k i h hk
    obtain ⟨k, rfl⟩ : ∃ q, k = q + 1 := ⟨k - 1, by omega⟩
    have hi : i < N := by omega
    have hih := ih k (i + 1) (by omega) (by omega)
    rw [clerestoryref3_Widths.l3, if_pos (by omega), if_pos (by omega), if_pos (by rw [len_lst]; omega), if_pos (by rw [len_lst]; omega), step i (by omega), Int.toNat_natCast, mix_rd _ _ _ _ hi, rd_lst y _ _ hi]
    rw [mix_set (fun j => wrap64 (x j + y j)) x N i _ rfl]
    exact hih
def sm (f : Nat → Int) : Nat → Int
  | 0 => 0
  | k + 1 => sm f k + f k
theorem sm_le (f : Nat → Int) (hf : ∀ j, 0 ≤ f j ∧ f j ≤ 16777216) (n : Nat) : 0 ≤ sm f n ∧ sm f n ≤ 16777216 * n := by
  induction n with
  | zero => simp [sm]
  | succ n ih =>
    have := hf n
    simp only [sm]
    omega
theorem sum_l0 (f : Nat → Int) (hf : ∀ j, 0 ≤ f j ∧ f j ≤ 16777216) (N : Nat) (hN : N ≤ 100) (d : Nat) : ∀ (k i : Nat), i + d = N → d < k →
    table_sum.l0 k (sm f i) (lst f N) (N : Int) (i : Int) = some (sm f N) := by
  induction d with
  | zero =>
    intro k i h hk
    obtain ⟨k, rfl⟩ : ∃ q, k = q + 1 := ⟨k - 1, by omega⟩
    obtain rfl : i = N := by omega
    rw [table_sum.l0, if_neg (by omega)]
  | succ d ih =>
    intro k i h hk
    obtain ⟨k, rfl⟩ : ∃ q, k = q + 1 := ⟨k - 1, by omega⟩
    have hi : i < N := by omega
    have hih := ih k (i + 1) (by omega) (by omega)
    have h1 := sm_le f hf i
    have h2 := hf i
    rw [table_sum.l0, if_pos (by omega), if_pos (by omega), if_pos (by rw [len_lst]; omega), step i (by omega), rd_lst _ _ _ hi]
    rw [show wrap64 (sm f i + f i) = sm f (i + 1) by simp only [sm]; unfold wrap64; omega]
    exact hih
theorem sum_f (f : Nat → Int) (hf : ∀ j, 0 ≤ f j ∧ f j ≤ 16777216) (N : Nat) (hN : N ≤ 100) (k : Nat) (hk : N < k) : table_sum.f k (lst f N) = some (sm f N) := by
  unfold table_sum.f
  have h := sum_l0 f hf N hN N k 0 (by omega) hk
  rw [len_lst]
  exact h
theorem sm_zero (f : Nat → Int) (hf : ∀ j, 0 ≤ f j ∧ f j ≤ 16777216) (n : Nat) (h : sm f n = 0) : ∀ j, j < n → f j = 0 := by
  induction n with
  | zero => intro j hj; omega
  | succ n ih =>
    intro j hj
    have h1 := (sm_le f hf n).1
    have h2 := hf n
    simp only [sm] at h
    by_cases e : j = n
    · subst e; omega
    · exact ih (by omega) j (by omega)
theorem psum_lst (f : Nat → Int) (hf : ∀ j, 0 ≤ f j ∧ f j ≤ 16777216) (N : Nat) (hN : N ≤ 100) (i : Nat) (hi : i ≤ N) : psum (lst f N) i = sm f i := by
  induction i with
  | zero => rfl
  | succ i ih =>
    have h := hf i
    have e : wt (lst f N) (i : Int) = f i := by
      unfold wt
      rw [if_neg (by omega), rd_lst _ _ _ (by omega)]
      unfold cut mx
      repeat' split
      all_goals omega
    simp only [psum, sm]
    rw [ih (by omega), e]
theorem share_all (f : Nat → Int) (hf : ∀ j, 0 ≤ f j ∧ f j ≤ 16777216) (N : Nat) (hN : N ≤ 100) (hs : sm f N ≤ 16777216) : share (sm f N) (lst f N) = lst f N := by
  have hp := psum_lst f hf N hN N (Nat.le_refl _)
  have h0 := (sm_le f hf N).1
  have hc : cut (sm f N) = sm f N := by
    unfold cut
    repeat' split
    all_goals omega
  unfold share
  rw [len_lst, hp, hc]
  by_cases hz : sm f N = 0
  · rw [if_pos hz, lst_rep]
    exact lst_congr (fun j hj => (sm_zero f hf N hz j hj).symm)
  · rw [if_neg hz]
    unfold shared
    rw [len_lst, hp]
    refine lst_congr (fun j hj => ?_)
    rw [psum_lst f hf N hN (j + 1) (by omega), psum_lst f hf N hN j (by omega), Int.mul_fdiv_cancel_left _ hz, Int.mul_fdiv_cancel_left _ hz]
    simp only [sm]
    omega
section
variable (a0 a1 : Int) (a b : List Int) (x : Bool) (N : Nat)
def lo (a : List Int) (i : Nat) : Int := mx 0 (cut (rd a (i : Int)))
def mo (a b : List Int) (i : Nat) : Int := mx 0 (wrap64 (cut (rd b (i : Int)) - lo a i))
theorem lo_le (a : List Int) (i : Nat) : 0 ≤ lo a i ∧ lo a i ≤ 16777216 := by
  have h := cut_le (rd a (i : Int))
  unfold lo mx
  split <;> omega
theorem mo_le (a b : List Int) (i : Nat) : 0 ≤ mo a b i ∧ mo a b i ≤ 16777216 := by
  have h := cut_le (rd b (i : Int))
  have h2 := lo_le a i
  have hw : wrap64 (cut (rd b (i : Int)) - lo a i) = cut (rd b (i : Int)) - lo a i := by unfold wrap64; omega
  unfold mo
  rw [hw]
  unfold mx
  split <;> omega
def free (a0 a1 : Int) (N : Nat) : Int := mx 0 (wrap64 (cut a0 - (wrap64 ((mx 0 (cut a1)) * (wrap64 ((N : Int) + 1))))))
theorem free_le (a0 a1 : Int) (N : Nat) (hN : N ≤ 100) : 0 ≤ free a0 a1 N ∧ free a0 a1 N ≤ 16777216 := by
  have h0 := cut_le a0
  have h1 := cut_le a1
  have hm : 0 ≤ mx 0 (cut a1) ∧ mx 0 (cut a1) ≤ 16777216 := by unfold mx; split <;> omega
  have hw : wrap64 ((N : Int) + 1) = (N : Int) + 1 := by unfold wrap64; omega
  have p0 : 0 ≤ (mx 0 (cut a1)) * ((N : Int) + 1) := Int.mul_nonneg hm.1 (by omega)
  have p1 : (mx 0 (cut a1)) * ((N : Int) + 1) ≤ 16777216 * 101 := Int.mul_le_mul hm.2 (by omega) (by omega) (by omega)
  unfold free
  rw [hw]
  have hw2 : wrap64 ((mx 0 (cut a1)) * ((N : Int) + 1)) = (mx 0 (cut a1)) * ((N : Int) + 1) := by unfold wrap64; omega
  rw [hw2]
  have hw3 : wrap64 (cut a0 - (mx 0 (cut a1)) * ((N : Int) + 1)) = cut a0 - (mx 0 (cut a1)) * ((N : Int) + 1) := by unfold wrap64; omega
  rw [hw3]
  unfold mx at p0 p1 ⊢
  repeat' split
  all_goals (try split at p0)
  all_goals (try split at p1)
  all_goals omega
theorem share_lst (n : Int) (ws : List Int) (N : Nat) (h : ws.length = N) : share n ws = lst (fun j => rd (share n ws) (j : Int)) N := by
  have h1 := lst_of (share n ws)
  rw [share_length, h] at h1
  exact h1
def res : List Int :=
  if x = true then lst (fun j => mx (lo a j) (rd (share (free a0 a1 N) (List.replicate N 1)) (j : Int))) N
  else if sm (lo a) N ≥ free a0 a1 N then lst (lo a) N
  else lst (fun j => wrap64 (lo a j + rd (share (mn (wrap64 (free a0 a1 N - sm (lo a) N)) (sm (mo a b) N)) (lst (mo a b) N)) (j : Int))) N
theorem ta0 (hN : N ≤ 100) (ha : N ≤ a.length) (hb : N ≤ b.length) (d : Nat) : ∀ (k i : Nat), i + d = N → d + 300 < k →
    table_Widths.l0 k a0 a1 a b x (N : Int) (lst (mix (lo a) (fun _ => 0) i) N) (lst (mix (mo a b) (fun _ => 0) i) N) (N : Int) (i : Int) = some (res a0 a1 a b x N) := by
  induction d with
  | zero =>
    intro k i h hk
    obtain ⟨k, rfl⟩ : ∃ q, k = q + 1 := ⟨k - 1, by omega⟩
    obtain rfl : i = N := by omega
    rw [table_Widths.l0, if_neg (by omega), mix_all, mix_all, cut_a, cut_a]
    simp only [Option.bind_some]
    unfold res
    have hf := free_le a0 a1 i hN
    unfold free at hf ⊢
    obtain ⟨F, hF⟩ : ∃ F, mx 0 (wrap64 (cut a0 - (wrap64 ((mx 0 (cut a1)) * (wrap64 ((i : Int) + 1)))))) = F := ⟨_, rfl⟩
    rw [hF] at hf ⊢
    by_cases hx : x = true
    · rw [if_pos hx, if_pos hx]
      have hr : slices_Repeat_int_int.f [1] (i : Int) = some (List.replicate i 1) := by
        unfold slices_Repeat_int_int.f
        rw [if_pos ⟨rfl, by omega, by omega⟩, Int.toNat_natCast]
      have hs : fix_Share.f F (List.replicate i 1) = some (share F (List.replicate i 1)) := by
        unfold fix_Share.f
        rw [if_pos (by rw [List.length_replicate]; omega)]
      rw [hr]
      simp only [Option.bind_some]
      rw [hs]
      simp only [Option.bind_some]
      have hl := share_lst F (List.replicate i 1) i (by simp)
      have h1 := ta1 (lo a) (fun j => rd (share F (List.replicate i 1)) (j : Int)) i hN i k 0 (by omega) (by omega)
      rw [mix_zero, ← hl] at h1
      rw [share_length, List.length_replicate]
      exact h1
    · rw [if_neg hx, if_neg hx, sum_f (lo a) (lo_le a) i hN k (by omega), sum_f (mo a b) (mo_le a b) i hN k (by omega)]
      simp only [Option.bind_some]
      by_cases hc : sm (lo a) i ≥ F
      · rw [if_pos hc, if_pos hc]
      · rw [if_neg hc, if_neg hc]
        have hs : fix_Share.f (mn (wrap64 (F - sm (lo a) i)) (sm (mo a b) i)) (lst (mo a b) i) = some (share (mn (wrap64 (F - sm (lo a) i)) (sm (mo a b) i)) (lst (mo a b) i)) := by
          unfold fix_Share.f
          rw [if_pos (by rw [len_lst]; omega)]
        rw [hs]
        simp only [Option.bind_some]
        obtain ⟨M, hM⟩ : ∃ M, mn (wrap64 (F - sm (lo a) i)) (sm (mo a b) i) = M := ⟨_, rfl⟩
        rw [hM]
        have hl := share_lst M (lst (mo a b) i) i (len_lst _ _)
        have h1 := ta2 (lo a) (fun j => rd (share M (lst (mo a b) i)) (j : Int)) i hN i k 0 (by omega) (by omega)
        rw [mix_zero, ← hl] at h1
        rw [share_length, len_lst]
        exact h1
  | succ d ih =>
    intro k i h hk
    obtain ⟨k, rfl⟩ : ∃ q, k = q + 1 := ⟨k - 1, by omega⟩
    have hi : i < N := by omega
    have hih := ih k (i + 1) (by omega) (by omega)
    rw [table_Widths.l0, if_pos (by omega), if_pos (by omega), if_pos (by omega), cut_a, cut_a]
    simp only [Option.bind_some]
    rw [if_pos (by rw [len_lst]; omega), if_pos (by omega), if_pos (by rw [len_lst]; omega), Int.toNat_natCast, show mx 0 (cut (rd a (i : Int))) = lo a i from rfl, mix_set (lo a) (fun _ => 0) N i (lo a i) rfl, mix_rd1 _ _ _ _ hi, show mx 0 (wrap64 (cut (rd b (i : Int)) - lo a i)) = mo a b i from rfl, mix_set (mo a b) (fun _ => 0) N i (mo a b i) rfl, step i (by omega)]
    exact hih
theorem re0 (hN : N ≤ 100) (ha : N ≤ a.length) (hb : N ≤ b.length) (d : Nat) : ∀ (k i : Nat), i + d = N → d + 500 < k →
    clerestoryref3_Widths.l0 k a b x (free a0 a1 N) (lst (lo a) i) (lst (mo a b) i) (List.replicate i 1) (sm (lo a) i) (sm (lo a) i + sm (mo a b) i) (N : Int) (i : Int) = some (res a0 a1 a b x N) := by
  induction d with
  | zero =>
    intro k i h hk
    obtain ⟨k, rfl⟩ : ∃ q, k = q + 1 := ⟨k - 1, by omega⟩
    obtain rfl : i = N := by omega
    have hf := free_le a0 a1 i hN
    rw [clerestoryref3_Widths.l0, if_neg (by omega)]
    unfold res
    obtain ⟨F, hF⟩ : ∃ F, free a0 a1 i = F := ⟨_, rfl⟩
    rw [hF] at hf ⊢
    have s1 := sm_le (lo a) (lo_le a) i
    have s2 := sm_le (mo a b) (mo_le a b) i
    by_cases hx : x = true
    · rw [if_pos hx, if_pos hx, share_b F _ (by rw [List.length_replicate]; omega) k (by rw [List.length_replicate]; omega)]
      simp only [Option.bind_some]
      have hl := share_lst F (List.replicate i 1) i (by simp)
      have h1 := re1 (lo a) (fun j => rd (share F (List.replicate i 1)) (j : Int)) i hN i k 0 (by omega) (by omega)
      rw [mix_zero, ← hl] at h1
      rw [share_length, List.length_replicate]
      exact h1
    · rw [if_neg hx, if_neg hx]
      have hw : wrap64 (F - sm (lo a) i) = F - sm (lo a) i := by unfold wrap64; omega
      by_cases hc : sm (lo a) i ≥ F
      · rw [if_pos hc]
        by_cases hc2 : sm (lo a) i + sm (mo a b) i ≤ F
        · have hz := sm_zero (mo a b) (mo_le a b) i (by omega)
          have h1 := re2 (lo a) (mo a b) i hN i k 0 (by omega) (by omega)
          rw [mix_zero] at h1
          rw [if_pos hc2, len_lst]
          refine h1.trans (congrArg some (lst_congr (fun j hj => ?_)))
          have h2 := lo_le a j
          rw [hz j hj]
          unfold wrap64
          omega
        · rw [if_neg hc2, if_neg (by omega)]
      · rw [if_neg hc, hw]
        by_cases hc2 : sm (lo a) i + sm (mo a b) i ≤ F
        · have hm : mn (F - sm (lo a) i) (sm (mo a b) i) = sm (mo a b) i := by unfold mn; split <;> omega
          rw [if_pos hc2, hm, share_all (mo a b) (mo_le a b) i hN (by omega), len_lst]
          have h1 := re2 (lo a) (mo a b) i hN i k 0 (by omega) (by omega)
          rw [mix_zero] at h1
          refine h1.trans (congrArg some (lst_congr (fun j hj => ?_)))
          rw [rd_lst _ _ _ hj]
        · have hm : mn (F - sm (lo a) i) (sm (mo a b) i) = F - sm (lo a) i := by unfold mn; split <;> omega
          rw [if_neg hc2, if_pos (by omega), hm, share_b _ _ (by rw [len_lst]; omega) k (by rw [len_lst]; omega)]
          simp only [Option.bind_some]
          have hl := share_lst (F - sm (lo a) i) (lst (mo a b) i) i (len_lst _ _)
          have h1 := re3 (lo a) (fun j => rd (share (F - sm (lo a) i) (lst (mo a b) i)) (j : Int)) i hN i k 0 (by omega) (by omega)
          rw [mix_zero, ← hl] at h1
          rw [share_length, len_lst]
          exact h1
  | succ d ih =>
    intro k i h hk
    obtain ⟨k, rfl⟩ : ∃ q, k = q + 1 := ⟨k - 1, by omega⟩
    have hi : i < N := by omega
    have hih := ih k (i + 1) (by omega) (by omega)
    have s1 := sm_le (lo a) (lo_le a) i
    have s2 := sm_le (mo a b) (mo_le a b) i
    have l1 := lo_le a i
    have l2 := mo_le a b i
    have hz : clerestoryref3_size.f (rd a (i : Int)) = some (lo a i) := by
      unfold clerestoryref3_size.f
      rw [cut_b]
      rfl
    rw [clerestoryref3_Widths.l0, if_pos (by omega), if_pos (by omega), if_pos (by omega), hz, cut_b]
    simp only [Option.bind_some]
    rw [lst_snoc, if_pos (by rw [len_lst]; omega), if_pos (by omega), if_pos (by rw [len_lst]; omega), if_pos (by rw [len_lst]; omega), rd_lst _ _ _ (show i < i + 1 by omega), show mx 0 (wrap64 (cut (rd b (i : Int)) - lo a i)) = mo a b i from rfl, lst_snoc, if_pos (by rw [List.length_replicate]; omega), if_pos (by rw [len_lst]; omega), rd_lst _ _ _ (show i < i + 1 by omega), step i (by omega)]
    have w1 : wrap64 (sm (lo a) i + lo a i) = sm (lo a) (i + 1) := by simp only [sm]; unfold wrap64; omega
    have w2 : wrap64 (wrap64 (sm (lo a) i + sm (mo a b) i + lo a i) + mo a b i) = sm (lo a) (i + 1) + sm (mo a b) (i + 1) := by simp only [sm]; unfold wrap64; omega
    rw [w1, w2, ← List.replicate_succ']
    exact hih
theorem res_length (hN : N ≤ 100) : (res a0 a1 a b x N).length = N := by
  unfold res
  repeat' split
  all_goals exact len_lst _ _
end
theorem law (K : Nat) (hK : 1000 ≤ K) (a0 a1 : Int) (l2 l3 : List Int) (x : Bool) (h2b : l2.length * 8 ≤ 140737488351232) (h3b : l3.length * 8 ≤ 140737488351232) : clerestorylaw3_TableWidths.f K a0 a1 l2 l3 x = some true := by
  unfold clerestorylaw3_TableWidths.f
  have hm : mn (l2.length : Int) 100 = ((min l2.length 100 : Nat) : Int) := by unfold mn; split <;> omega
  rw [hm, if_pos (by omega), if_pos (by omega), Int.toNat_natCast]
  have ht : clerestorylaw3_tabled.f = some true := rfl
  rw [ht]
  simp only [Option.bind_some, if_true]
  obtain ⟨a, ha⟩ : ∃ a, l2.take (min l2.length 100) = a := ⟨_, rfl⟩
  have hal : a.length ≤ 100 := by rw [← ha, List.length_take]; omega
  rw [ha]
  obtain ⟨N, hN⟩ : ∃ N, min a.length l3.length = N := ⟨_, rfl⟩
  have hmn : mn (a.length : Int) (l3.length : Int) = (N : Int) := by unfold mn; split <;> omega
  have e1 : table_Widths.f K a0 a1 a l3 x = some (res a0 a1 a l3 x N) := by
    unfold table_Widths.f
    rw [hmn, if_pos (by omega), Int.toNat_natCast, if_pos (by omega)]
    have h := ta0 a0 a1 a l3 x N (by omega) (by omega) (by omega) N K 0 (by omega) (by omega)
    rw [mix_zero, mix_zero, ← lst_rep] at h
    exact h
  have e2 : clerestoryref3_Widths.f K a0 a1 a l3 x = some (res a0 a1 a l3 x N) := by
    unfold clerestoryref3_Widths.f clerestoryref3_size.f
    rw [hmn, cut_b, cut_b]
    simp only [Option.bind_some]
    exact re0 a0 a1 a l3 x N (by omega) (by omega) (by omega) N K 0 (by omega) (by omega)
  rw [e1, e2]
  simp only [Option.bind_some]
  have hl := res_length a0 a1 a l3 x N (by omega)
  rw [eq_self _ (by omega) K (by omega)]
  rfl
end Widths
theorem TableWidths : clerestorylaw3_TableWidths.Pure := by
  intro a0 a1 l2 l3 x _ _ h2 h2b _ h3 h3b _
  exact ⟨_, Widths.law _ (Nat.le_refl _) a0 a1 l2 l3 x h2b h3b⟩

end Go.Proofs.Ytaejmgdpnnhpmaa.Pure
