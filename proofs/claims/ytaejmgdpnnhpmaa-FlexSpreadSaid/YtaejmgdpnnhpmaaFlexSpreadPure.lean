/- The plain law of flex.Spread. -/
import Derived.Test.YtaejmgdpnnhpmaaQFlexx10
import Derived.Test.YtaejmgdpnnhpmaaFlexSmall
namespace Go.Proofs.Ytaejmgdpnnhpmaa.QFlex
open Go.RowKit Go.Proofs.YtaejmgdpnnhpmaaW.PrintWords Go.Proofs.YtaejmgdpnnhpmaaW.PrintLast Go.Proofs.YtaejmgdpnnhpmaaW.PrintMore
set_option linter.unusedVariables false
set_option linter.unusedSimpArgs false
/-- The sums of the weights, the first i of them. -/
def ps (ws : List Int) (i : Nat) : List Int := (List.range (i + 1)).map (psum ws)
theorem ps_length (ws : List Int) (i : Nat) : (ps ws i).length = i + 1 := by simp [ps]
theorem ps_rd (ws : List Int) (m j : Nat) (h : j ≤ m) : rd (ps ws m) (j : Int) = psum ws j := by
  simp [rd, ps, List.getElem?_range (show j < m + 1 by omega)]
theorem ps_snoc (ws : List Int) (i : Nat) : ps ws (i + 1) = ps ws i ++ [psum ws i + wt ws i] := by
  simp [ps, List.range_succ (n := i + 1), psum]
/-- What is toldS so far. -/
def toldS (n : Int) (ws : List Int) (i : Nat) : List Int := if psum ws ws.length = 0 then List.replicate i 0 else shared n ws i
theorem toldS_length (n : Int) (ws : List Int) (i : Nat) : (toldS n ws i).length = i := by unfold toldS; split <;> simp [shared]
theorem share_l1 (n : Int) (ws : List Int) (hl : ws.length * 8 ≤ 140737488351232) (d : Nat) : ∀ (k i : Nat), i + d = ws.length → d < k →
    clerestoryref3_Share.l1 k (cut n) (ps ws ws.length) (psum ws ws.length) (toldS (cut n) ws i) (ws.length : Int) (i : Int) = some (toldS (cut n) ws ws.length) := by
  induction d with
  | zero =>
    intro k i h hk
    obtain ⟨k, rfl⟩ : ∃ q, k = q + 1 := ⟨k - 1, by omega⟩
    obtain rfl : i = ws.length := by omega
    rw [clerestoryref3_Share.l1, if_neg (by omega)]
  | succ d ih =>
    intro k i h hk
    obtain ⟨k, rfl⟩ : ∃ q, k = q + 1 := ⟨k - 1, by omega⟩
    have hw : wrap64 ((i : Int) + 1) = ((i + 1 : Nat) : Int) := by unfold wrap64; omega
    have hll : (toldS (cut n) ws i).length < 17592186044416 := by rw [toldS_length]; omega
    have hih := ih k (i + 1) (by omega) (by omega)
    rw [clerestoryref3_Share.l1, if_pos (by omega), hw]
    by_cases hz : psum ws ws.length = 0
    · rw [if_pos hz, if_pos hll]
      have e : toldS (cut n) ws i ++ [0] = toldS (cut n) ws (i + 1) := by
        unfold toldS
        rw [if_pos hz, if_pos hz]
        simp [List.replicate_succ']
      rw [e]
      exact hih
    · have hpos : 0 < psum ws ws.length := by have := (psum_le ws ws.length).1; omega
      have p1 := psum_le ws i
      have p2 := psum_le ws (i + 1)
      have b1 := part_le n (psum ws i) p1.1 p1.2.1
      have b2 := part_le n (psum ws (i + 1)) p2.1 p2.2.1
      have c1 := fdiv_le (cut n * psum ws i) _ hpos
      have c2 := fdiv_le (cut n * psum ws (i + 1)) _ hpos
      rw [if_neg hz, if_pos (by omega), if_pos (by rw [ps_length]; omega), ps_rd _ _ _ (by omega), ps_rd _ _ _ (by omega)]
      have w1 : wrap64 (cut n * psum ws (i + 1)) = cut n * psum ws (i + 1) := by unfold wrap64; omega
      have w2 : wrap64 (cut n * psum ws i) = cut n * psum ws i := by unfold wrap64; omega
      rw [w1, w2, down_b _ _ (by omega) (by omega) hpos, down_b _ _ (by omega) (by omega) hpos]
      simp only [Option.bind_some]
      rw [if_pos (by omega), if_pos (by rw [ps_length]; omega), if_pos hll]
      have w3 : wrap64 ((cut n * psum ws (i + 1)).fdiv (psum ws ws.length) - (cut n * psum ws i).fdiv (psum ws ws.length)) = (cut n * psum ws (i + 1)).fdiv (psum ws ws.length) - (cut n * psum ws i).fdiv (psum ws ws.length) := by unfold wrap64; omega
      have e : toldS (cut n) ws i ++ [(cut n * psum ws (i + 1)).fdiv (psum ws ws.length) - (cut n * psum ws i).fdiv (psum ws ws.length)] = toldS (cut n) ws (i + 1) := by
        unfold toldS
        rw [if_neg hz, if_neg hz, shared_snoc]
      rw [w3, e]
      exact hih
theorem share_l0 (n : Int) (ws : List Int) (hl : ws.length * 8 ≤ 140737488351232) (d : Nat) : ∀ (k i : Nat), i + d = ws.length → d + ws.length + 1 < k →
    clerestoryref3_Share.l0 k (cut n) ws (ps ws i) ws (ws.length : Int) (i : Int) = some (toldS (cut n) ws ws.length) := by
  induction d with
  | zero =>
    intro k i h hk
    obtain ⟨k, rfl⟩ : ∃ q, k = q + 1 := ⟨k - 1, by omega⟩
    obtain rfl : i = ws.length := by omega
    rw [clerestoryref3_Share.l0, if_neg (by omega), if_pos (by omega), if_pos (by rw [ps_length]; omega), ps_rd _ _ _ (Nat.le_refl _)]
    have h0 := share_l1 n ws hl ws.length k 0 (by omega) (by omega)
    have e : toldS (cut n) ws 0 = [] := List.eq_nil_of_length_eq_zero (toldS_length _ _ _)
    rw [e] at h0
    exact h0
  | succ d ih =>
    intro k i h hk
    obtain ⟨k, rfl⟩ : ∃ q, k = q + 1 := ⟨k - 1, by omega⟩
    have hw : wrap64 ((i : Int) + 1) = ((i + 1 : Nat) : Int) := by unfold wrap64; omega
    have hll : (ps ws i).length < 17592186044416 := by rw [ps_length]; omega
    have hll2 : (i : Int) < ((ps ws i).length : Int) := by rw [ps_length]; omega
    have p1 := psum_le ws i
    have p2 := (psum_le ws (i + 1)).2.1
    have q := wt_le ws i
    have hcut := cut_le (rd ws i)
    have hih := ih k (i + 1) (by omega) (by omega)
    rw [ps_snoc] at hih
    rw [clerestoryref3_Share.l0, if_pos (by omega), if_pos (by omega), if_pos (by omega), cut_b, hw]
    simp only [Option.bind_some]
    rw [if_pos hll2, if_pos hll, if_pos hll2, if_pos hll, ps_rd _ _ _ (Nat.le_refl _)]
    have w1 : wrap64 (psum ws i) = psum ws i := by unfold wrap64; omega
    have w2 : wrap64 (psum ws i + cut (rd ws i)) = psum ws i + cut (rd ws i) := by unfold wrap64; omega
    rw [w1, w2]
    by_cases h1 : cut (rd ws i) < 0
    · rw [if_pos h1]
      have e : wt ws i = 0 := by
        unfold wt mx
        split
        · rfl
        · rw [if_neg (by omega)]
      rw [e, Int.add_zero] at hih
      exact hih
    · rw [if_neg h1]
      by_cases h2 : (i : Int) ≥ 1000
      · rw [if_pos h2]
        have e : wt ws i = 0 := by
          unfold wt
          rw [if_pos h2]
        rw [e, Int.add_zero] at hih
        exact hih
      · rw [if_neg h2]
        have e : wt ws i = cut (rd ws i) := by
          unfold wt mx
          rw [if_neg h2]
          split <;> omega
        rw [e] at hih
        exact hih
theorem share_b (n : Int) (ws : List Int) (hl : ws.length * 8 ≤ 140737488351232) (k : Nat) (hk : 2 * ws.length + 2 ≤ k) : clerestoryref3_Share.f k n ws = some (share n ws) := by
  unfold clerestoryref3_Share.f
  rw [cut_b]
  have h := share_l0 n ws hl ws.length k 0 (by omega) (by omega)
  simp only [Option.bind_some]
  have e : toldS (cut n) ws ws.length = share n ws := by
    unfold toldS share
    rfl
  rw [← e]
  exact h
theorem rd_setN (l : List Int) (i j : Nat) (v : Int) (hj : j < l.length) : rd (l.set i v) (j : Int) = if i = j then v else rd l (j : Int) := by
  rw [rdI _ _ (by rw [List.length_set]; exact hj), rdI _ _ hj, List.getElem_set]
theorem rd_extN (a b : List Int) (h : a.length = b.length) (H : ∀ j : Nat, j < a.length → rd a (j : Int) = rd b (j : Int)) : a = b := by
  apply List.ext_getElem h
  intro j h1 h2
  have := H j h1
  rw [rdI _ _ h1, rdI _ _ h2] at this
  exact this
theorem rd_zeros (m j : Nat) (h : j < m) : rd (List.replicate m 0) (j : Int) = 0 := by
  rw [rdI _ _ (by rw [List.length_replicate]; exact h), List.getElem_replicate]
theorem share_rd_le (n : Int) (ws : List Int) (j : Nat) (h : j < ws.length) : -1000000000000000000 ≤ rd (share n ws) (j : Int) ∧ rd (share n ws) (j : Int) ≤ 1000000000000000000 := by
  unfold share
  by_cases hz : psum ws ws.length = 0
  · rw [if_pos hz, rd_zeros _ _ h]; omega
  · rw [if_neg hz, rdI _ _ (by rw [shared_length]; exact h)]
    have hpos : 0 < psum ws ws.length := by have := (psum_le ws ws.length).1; omega
    have p1 := psum_le ws j
    have p2 := psum_le ws (j + 1)
    have b1 := part_le n (psum ws j) p1.1 p1.2.1
    have b2 := part_le n (psum ws (j + 1)) p2.1 p2.2.1
    have c1 := fdiv_le (cut n * psum ws j) _ hpos
    have c2 := fdiv_le (cut n * psum ws (j + 1)) _ hpos
    simp only [shared, List.getElem_map, List.getElem_range]
    omega
theorem ones_rd_le (c : Int) (m j : Nat) (h : j < m) : -1000000000000000000 ≤ rd (ones c m) (j : Int) ∧ rd (ones c m) (j : Int) ≤ 1000000000000000000 :=
  share_rd_le c (List.replicate m 1) j (by rw [List.length_replicate]; exact h)
def vOf (q : List Int) (j : Nat) : Int := if j = 0 then rd q 0 else wrap64 (rd q ((2 * j : Nat) : Int) + rd q ((2 * j - 1 : Nat) : Int))
theorem addUp_rd (q : List Int) (m : Nat) (hq : ∀ j : Nat, j < 2 * m → -1000000000000000000 ≤ rd q (j : Int) ∧ rd q (j : Int) ≤ 1000000000000000000) (j : Nat) (hj : j < m) : ∀ i : Nat, i ≤ 2 * m - 1 →
    rd (addUp q m i) (j : Int) = if i ≤ 2 * j - 1 ∧ (j = 0 → i = 0) then 0 else if j = 0 then rd q 0 else if i = 2 * j then rd q ((2 * j - 1 : Nat) : Int) else vOf q j := by
  intro i
  induction i with
  | zero => intro _; rw [if_pos ⟨by omega, fun _ => rfl⟩]; exact rd_zeros m j hj
  | succ i ih =>
    intro hi
    have hih := ih (by omega)
    have e : addUp q m (i + 1) = (addUp q m i).set ((i + 1) / 2) (wrap64 (rd (addUp q m i) (((i + 1) / 2 : Nat) : Int) + rd q i)) := rfl
    rw [e, rd_setN _ _ _ _ (by rw [addUp_length]; exact hj)]
    by_cases h : (i + 1) / 2 = j
    · rw [if_pos h, h, hih]
      have hqi := hq i (by omega)
      by_cases j0 : j = 0
      · have i0 : i = 0 := by omega
        rw [if_pos ⟨by omega, fun _ => i0⟩, if_neg (by omega), if_pos j0, i0]
        rw [i0] at hqi
        have : ((0 : Nat) : Int) = 0 := rfl
        rw [this] at hqi ⊢
        unfold wrap64; omega
      · by_cases h1 : i = 2 * j - 1
        · rw [if_pos ⟨by omega, fun h => absurd h j0⟩, if_neg (by omega), if_neg j0, if_pos (by omega), h1]
          rw [h1] at hqi
          unfold wrap64; omega
        · have h2 : i = 2 * j := by omega
          rw [if_neg (by omega), if_neg j0, if_pos h2, if_neg (by omega), if_neg j0, if_neg (by omega)]
          unfold vOf
          rw [if_neg j0, h2, Int.add_comm]
    · rw [if_neg h, hih]
      clear hih ih e
      repeat' split
      all_goals first | rfl | (exfalso; omega)
theorem addUp_end (q : List Int) (m : Nat) (hq : ∀ j : Nat, j < 2 * m → -1000000000000000000 ≤ rd q (j : Int) ∧ rd q (j : Int) ≤ 1000000000000000000) (j : Nat) (hj : j < m) :
    rd (addUp q m (2 * m - 1)) (j : Int) = vOf q j := by
  rw [addUp_rd q m hq j hj _ (Nat.le_refl _), if_neg (by omega)]
  by_cases j0 : j = 0
  · rw [if_pos j0]; unfold vOf; rw [if_pos j0]
  · rw [if_neg j0, if_neg (by omega)]
/-- The reference's loops. -/
theorem sp_l0 (a0 a1 a2 : Int) (out : List Int) (n : Nat) (hn : n ≤ 1000) : ∀ (d k i : Nat), i + d = n →
    clerestoryref3_Spread.l0 (k + d) a0 a1 a2 out (List.replicate i 1 ++ List.replicate d 0) (n : Int) (i : Int) = clerestoryref3_Spread.l0 k a0 a1 a2 out (List.replicate n 1) (n : Int) (n : Int) := by
  intro d
  induction d with
  | zero => intro k i h; obtain rfl : i = n := by omega
            simp
  | succ d ih =>
    intro k i h
    have hw : wrap64 ((i : Int) + 1) = ((i + 1 : Nat) : Int) := by unfold wrap64; omega
    have hl : (List.replicate i (1 : Int) ++ List.replicate (d + 1) 0).length = n := by simp; omega
    rw [← Nat.add_assoc, clerestoryref3_Spread.l0, if_pos (by omega), if_pos (by omega), if_pos (by rw [hl]; omega), hw]
    have e : (List.replicate i (1 : Int) ++ List.replicate (d + 1) 0).set (i : Int).toNat 1 = List.replicate (i + 1) 1 ++ List.replicate d 0 := by
      rw [Int.toNat_natCast, List.set_append_right _ _ (by simp), List.length_replicate, Nat.sub_self, List.replicate_succ, List.set_cons_zero, List.replicate_succ', List.append_assoc]
      rfl
    rw [e]
    exact ih k (i + 1) (by omega)
theorem sp_l1 (q : List Int) (hq : q.length ≤ 1000) : ∀ (d k i : Nat) (x : List Int), i + d = q.length → x.length = q.length + 1 → (∀ j : Nat, j < x.length → rd x (j : Int) = if j = 0 then 0 else if j ≤ i then rd q ((j - 1 : Nat) : Int) else 0) →
    clerestoryref3_Spread.l1 (k + d + 1) x q (q.length : Int) (i : Int) = some (0 :: q) := by
  intro d
  induction d with
  | zero =>
    intro k i x h hx H
    obtain rfl : i = q.length := by omega
    rw [clerestoryref3_Spread.l1, if_neg (by omega)]
    congr 1
    refine rd_extN _ _ (by rw [hx]; rfl) (fun j hj => ?_)
    rw [H j hj]
    by_cases j0 : j = 0
    · subst j0; rfl
    · obtain ⟨j, rfl⟩ : ∃ z, j = z + 1 := ⟨j - 1, by omega⟩
      rw [if_neg j0, if_pos (by omega)]
      rw [rdI _ (j + 1) (by simp; omega), Nat.add_sub_cancel, rdI _ j (by omega)]
      rfl
  | succ d ih =>
    intro k i x h hx H
    have hw : wrap64 ((i : Int) + 1) = ((i + 1 : Nat) : Int) := by unfold wrap64; omega
    rw [show k + (d + 1) + 1 = (k + d + 1) + 1 by omega, clerestoryref3_Spread.l1, if_pos (by omega), if_pos (by omega), if_pos (by omega), hw, if_pos (by omega), if_pos (by omega), Int.toNat_natCast]
    refine ih k (i + 1) _ (by omega) (by rw [List.length_set]; exact hx) (fun j hj => ?_)
    rw [List.length_set] at hj
    rw [rd_setN _ _ _ _ hj, H j hj]
    by_cases h1 : i + 1 = j
    · subst h1
      rw [if_pos rfl, if_neg (by omega), if_pos (Nat.le_refl _)]
      rfl
    · rw [if_neg h1]
      by_cases j0 : j = 0
      · rw [if_pos j0, if_pos j0]
      · rw [if_neg j0, if_neg j0]
        by_cases h2 : j ≤ i
        · rw [if_pos h2, if_pos (by omega)]
        · rw [if_neg h2, if_neg (by omega)]
theorem sp_l2 (q : List Int) (m : Nat) (hm : m ≤ 500) (hql : q.length = 2 * m) : ∀ (d k i : Nat) (x : List Int), i + d = m → x.length = m → (∀ j : Nat, j < m → rd x (j : Int) = if j < i then vOf q j else 0) →
    ∃ y, clerestoryref3_Spread.l2 (k + d + 1) x q (m : Int) (i : Int) = some y ∧ y.length = m ∧ ∀ j : Nat, j < m → rd y (j : Int) = vOf q j := by
  intro d
  induction d with
  | zero =>
    intro k i x h hx H
    obtain rfl : i = m := by omega
    rw [clerestoryref3_Spread.l2, if_neg (by omega)]
    exact ⟨x, rfl, hx, fun j hj => by rw [H j hj, if_pos hj]⟩
  | succ d ih =>
    intro k i x h hx H
    have hw : wrap64 ((i : Int) + 1) = ((i + 1 : Nat) : Int) := by unfold wrap64; omega
    have hw2 : wrap64 (2 * (i : Int)) = ((2 * i : Nat) : Int) := by unfold wrap64; omega
    rw [show k + (d + 1) + 1 = (k + d + 1) + 1 by omega, clerestoryref3_Spread.l2, if_pos (by omega), hw, hw2, if_pos (by omega), if_pos (by omega), if_pos (by omega), if_pos (by omega), Int.toNat_natCast]
    simp only [Option.bind_some]
    by_cases i0 : i = 0
    · subst i0
      rw [if_neg (by omega)]
      refine ih k 1 _ (by omega) (by rw [List.length_set]; exact hx) (fun j hj => ?_)
      rw [rd_setN _ _ _ _ (by omega), H j hj]
      by_cases j0 : j = 0
      · subst j0; rfl
      · rw [if_neg (by omega), if_neg (by omega), if_neg (by omega)]
    · have hw3 : wrap64 (((2 * i : Nat) : Int) - 1) = ((2 * i - 1 : Nat) : Int) := by unfold wrap64; omega
      rw [if_pos (by omega), hw3, if_pos (by omega), if_pos (by omega)]
      refine ih k (i + 1) _ (by omega) (by rw [List.length_set, List.length_set]; exact hx) (fun j hj => ?_)
      rw [rd_setN _ _ _ _ (by rw [List.length_set]; omega), rd_setN _ _ _ _ (by omega), rd_setN _ _ _ _ (by omega), H j hj]
      by_cases hij : i = j
      · subst hij
        rw [if_pos rfl, if_pos rfl, if_pos (by omega)]
        unfold vOf
        rw [if_neg i0]
      · rw [if_neg hij, if_neg hij]
        by_cases h2 : j < i
        · rw [if_pos h2, if_pos (by omega)]
        · rw [if_neg h2, if_neg (by omega)]
theorem ones_share (c : Int) (m k : Nat) (hm : m ≤ 1000) (hk : 2002 ≤ k) : clerestoryref3_Share.f k c (List.replicate m 1) = some (ones c m) :=
  share_b c (List.replicate m 1) (by rw [List.length_replicate]; omega) k (by rw [List.length_replicate]; omega)
theorem spread_ref (a0 a1 : Int) (m : Nat) (h1 : 1 ≤ m) (h5 : m ≤ 500) : clerestoryref3_Spread.f 8000 a0 a1 (m : Int) = some (spreadOf (modeOf a0 (cut a1)) (cut a1) m) := by
  unfold clerestoryref3_Spread.f
  have hd : decide ((m : Int) > 500) = false := decide_eq_false (by omega)
  have hw : wrap64 (2 * (m : Int)) = ((2 * m : Nat) : Int) := by unfold wrap64; omega
  rw [if_neg (by omega), hd, show (8000 : Nat) = 7999 + 1 from rfl, clerestoryref3_Spread.j0, if_neg (by decide), if_pos (by omega), if_pos (by omega), hw, if_pos (by omega), if_pos (by omega), Int.toNat_natCast, Int.toNat_natCast]
  simp only [Option.bind_some, List.length_replicate]
  have h0 := sp_l0 a0 a1 (m : Int) (List.replicate m 0) (2 * m) (by omega) (2 * m) (7999 - 2 * m) 0 (by omega)
  rw [show 7999 - 2 * m + 2 * m = 7999 by omega] at h0
  have h0' : clerestoryref3_Spread.l0 7999 a0 a1 (m : Int) (List.replicate m 0) (List.replicate (2 * m) 0) ((2 * m : Nat) : Int) 0 = _ := h0
  rw [h0']
  clear h0 h0'
  obtain ⟨k, hk⟩ : ∃ k, 7999 - 2 * m = k + 4 := ⟨7999 - 2 * m - 4, by omega⟩
  have hk2 : 6000 ≤ k := by omega
  rw [hk, clerestoryref3_Spread.l0, if_neg (by omega), cut_b]
  simp only [Option.bind_some]
  obtain ⟨c, hc⟩ : ∃ c, cut a1 = c := ⟨_, rfl⟩
  rw [hc]
  clear hc
  have hlz : ((List.replicate m (0 : Int)).length : Int) = m := by rw [List.length_replicate]
  rw [hlz]
  by_cases m1 : a0 = 1
  · subst m1
    rw [if_pos rfl, if_pos (by omega), sp1 1 c m (by omega) (by unfold modeOf; split <;> rfl)]
    rfl
  rw [if_neg m1]
  have hhalf : ∀ k, clerestoryref3_Spread.j2 (k + 1) a0 c (m : Int) (List.replicate m 0) (List.replicate (2 * m) 1) true = some ((List.replicate m 0).set 0 (part c 1 2)) := by
    intro k
    rw [clerestoryref3_Spread.j2, if_pos rfl, part_b]
    simp only [Option.bind_some, hlz]
    rw [if_pos (by omega)]
    rfl
  by_cases m2 : a0 = 2
  · subst m2
    rw [if_pos rfl, hhalf, sp2 2 c m (by omega) (by unfold modeOf; split <;> rfl)]
  rw [if_neg m2]
  by_cases m5 : a0 = 5
  · subst m5
    rw [if_pos rfl]
    by_cases hcz : c ≤ 0
    · rw [decide_eq_true hcz, hhalf, sp2 5 c m (by omega) (by unfold modeOf; rw [if_pos hcz]; rfl)]
    · rw [decide_eq_false hcz, clerestoryref3_Spread.j2, if_neg (by decide), if_neg (by decide), clerestoryref3_Spread.j3, if_neg (by decide), if_pos rfl, ones_share c (2 * m) _ (by omega) (by omega)]
      simp only [Option.bind_some, hlz]
      rw [sp5 5 c m (by omega) (by unfold modeOf; rw [if_neg hcz])]
      have hb := fun j hj => ones_rd_le c (2 * m) j hj
      obtain ⟨y, hy, hyl, hyr⟩ := sp_l2 (ones c (2 * m)) m h5 (ones_length c (2 * m)) m (k - m) 0 (List.replicate m 0) (by omega) (by rw [List.length_replicate]) (fun j hj => by rw [rd_zeros m j hj, if_neg (by omega)])
      rw [show k - m + m + 1 = k + 1 by omega] at hy
      have hy' : clerestoryref3_Spread.l2 (k + 1) (List.replicate m 0) (ones c (2 * m)) (m : Int) 0 = some y := hy
      rw [hy']
      congr 1
      refine rd_extN _ _ (by rw [hyl, addUp_length]) (fun j hj => ?_)
      rw [hyr j (by omega), addUp_end _ _ hb j (by omega)]
  rw [if_neg m5, clerestoryref3_Spread.j2, if_neg (by decide)]
  by_cases m4 : a0 = 4
  · subst m4
    rw [if_pos rfl]
    by_cases hcz : c > 0
    · have hw1 : wrap64 ((m : Int) - 1) = ((m - 1 : Nat) : Int) := by unfold wrap64; omega
      rw [decide_eq_true hcz, clerestoryref3_Spread.j3, if_pos rfl, hw1, if_pos (by omega), if_pos (by rw [List.length_replicate]; omega), Int.toNat_natCast, List.take_replicate, show min (m - 1) (2 * m) = m - 1 by omega, ones_share c (m - 1) _ (by omega) (by omega)]
      simp only [Option.bind_some]
      rw [sp4 4 c m (by omega) (by unfold modeOf; rw [if_neg (by omega)])]
      have h := sp_l1 (ones c (m - 1)) (by rw [ones_length]; omega) (m - 1) (k - (m - 1)) 0 (List.replicate m 0) (by rw [ones_length]; omega) (by rw [List.length_replicate, ones_length]; omega) (fun j hj => by rw [List.length_replicate] at hj; rw [rd_zeros m j hj]; split; rfl; rw [if_neg (by omega)])
      rw [show k - (m - 1) + (m - 1) + 1 = k + 1 by omega] at h
      exact h
    · rw [decide_eq_false hcz, clerestoryref3_Spread.j3, if_neg (by decide), if_neg (by decide), spo 4 c m (by omega) (by unfold modeOf; rw [if_pos (by omega)]; rfl)]
  rw [if_neg m4, clerestoryref3_Spread.j3, if_neg (by decide), if_neg m5]
  by_cases hcz : c ≤ 0
  · rw [other_le hcz ⟨m1, m2, m4, m5⟩ (by omega)]
  · rw [other_gt hcz ⟨m1, m2, m4, m5⟩ (by omega)]
theorem spread_ref_none (a0 a1 n : Int) (h : manyOf n = 0) : clerestoryref3_Spread.f 8000 a0 a1 n = some (spreadOf (modeOf a0 (cut a1)) (cut a1) (manyOf n)) := by
  rw [h]
  unfold clerestoryref3_Spread.f
  have e : spreadOf (modeOf a0 (cut a1)) (cut a1) 0 = [] := by unfold spreadOf; rw [if_pos rfl]
  rw [e]
  by_cases h1 : n < 1
  · rw [if_pos h1, show (8000 : Nat) = 7999 + 1 from rfl, clerestoryref3_Spread.j0, if_pos rfl]
  · have h5 : n > 500 := by
      unfold manyOf at h
      rw [if_neg (by omega)] at h
      by_cases h5 : n > 500
      · exact h5
      · rw [if_neg h5] at h; omega
    rw [if_neg h1, decide_eq_true h5, show (8000 : Nat) = 7999 + 1 from rfl, clerestoryref3_Spread.j0, if_pos rfl]
theorem spreadOf_length (mode c : Int) (m : Nat) : (spreadOf mode c m).length = m := by
  unfold spreadOf
  split
  · subst_vars; rfl
  repeat' split
  all_goals simp [addUp_length, ones_length]
  omega
theorem manyOf_le (n : Int) : manyOf n ≤ 500 := by
  unfold manyOf
  repeat' split
  all_goals omega
theorem flexSpread_pure (a0 a1 a2 : Int) : ∃ k, clerestorylaw3_FlexSpread.f k a0 a1 a2 = some true := by
  refine ⟨8000, ?_⟩
  unfold clerestorylaw3_FlexSpread.f flex_Spread.f
  rw [show (8000 : Nat) = 60 + 7940 from rfl, flexed_f 7940]
  simp only [Option.bind_some, if_true]
  have hr : clerestoryref3_Spread.f (60 + 7940) a0 a1 a2 = some (spreadOf (modeOf a0 (cut a1)) (cut a1) (manyOf a2)) := by
    by_cases h : manyOf a2 = 0
    · exact spread_ref_none a0 a1 a2 h
    · have h2 := manyOf_le a2
      have h3 : a2 = (manyOf a2 : Int) := by
        unfold manyOf at h ⊢
        split at h
        · exact absurd rfl h
        · split at h
          · exact absurd rfl h
          · rw [if_neg (by assumption), if_neg (by assumption)]; omega
      have := spread_ref a0 a1 (manyOf a2) (by omega) h2
      rw [← h3] at this
      exact this
  rw [hr]
  simp only [Option.bind_some]
  rw [eq_f _ (by rw [spreadOf_length]; have := manyOf_le a2; omega) _ (by rw [spreadOf_length]; have := manyOf_le a2; omega)]
  rfl
end Go.Proofs.Ytaejmgdpnnhpmaa.QFlex
