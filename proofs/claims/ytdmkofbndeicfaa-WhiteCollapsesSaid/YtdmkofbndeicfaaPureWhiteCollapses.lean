/- WhiteCollapses: Collapse answers what the document's reference answers, of every text, mode and blank ahead. -/
import Derived.Test.YtdmkofbndeicfaaQWhiteCollapsesx2
namespace Go.Proofs.Ytdmkofbndeicfaa.Pure
open Go.RowKit Go.Proofs.Ytdmkofbndeicfaa.QWhiteCollapses Go.Proofs.YtdmkofbndeicfaaW.PrintWords Go.Proofs.YtdmkofbndeicfaaW.PrintLast Go.Proofs.YtdmkofbndeicfaaW.PrintMore

theorem son_snoc (xs : List Int) (c : Int) : strOfNums (xs ++ [c]) = strOfNums xs ++ ⟨#[UInt8.ofNat c.toNat]⟩ := by
  apply ByteArray.ext
  rw [ByteArray.data_append]
  simp [strOfNums]
theorem son_size (xs : List Int) : (strOfNums xs).size = xs.length := by
  show (strOfNums xs).data.size = _
  simp [strOfNums]
theorem ext_one (s : ByteArray) (i : Nat) (h : i < s.size) : s.extract i (i + 1) = ⟨#[UInt8.ofNat (bt s i).toNat]⟩ := by
  apply ByteArray.ext
  rw [ByteArray.data_extract]
  have hb : bt s i = ((s[i]'h).toNat : Int) := by simp [bt, h]
  rw [hb]
  apply Array.ext
  · have : s.data.size = s.size := rfl
    simp; omega
  · intro j h1 h2
    have h3 : j = 0 := by simpa using h2
    subst h3
    simp
    rfl
theorem toList_nil (s : ByteArray) : s.toList = [] ↔ s.size = 0 := by
  rw [show s.toList = s.data.toList from Lib.toList_data s]
  constructor
  · intro h
    show s.data.size = 0
    rw [← Array.length_toList, h]; rfl
  · intro h
    have h' : s.data.size = 0 := h
    exact List.eq_nil_of_length_eq_zero (by rw [Array.length_toList]; exact h')
theorem bt_son (xs : List Int) (h : ∀ x ∈ xs, 0 ≤ x ∧ x ≤ 255) (i : Nat) (hi : i < xs.length) : bt (strOfNums xs) i = xs[i] := by
  have h0 : i < (strOfNums xs).size := by rw [son_size]; exact hi
  have hb : bt (strOfNums xs) i = (((strOfNums xs)[i]'h0).toNat : Int) := by simp [bt, h0]
  rw [hb]
  have e : (strOfNums xs)[i]'h0 = UInt8.ofNat (xs[i]).toNat := by
    show (strOfNums xs).data[i] = _
    simp [strOfNums]
  rw [e]
  have := h _ (List.getElem_mem hi)
  simp
  omega

/-- Is a byte a blank? -/
def isB (c : Int) : Bool := decide (c = 32 ∨ c = 9 ∨ c = 10 ∨ c = 12 ∨ c = 13)
theorem isb_a (s : ByteArray) (i : Nat) : white_isBlank.f (bt s i) = some (isB (bt s i)) := by
  have : ∀ n : Nat, n < 256 → decide (0 ≤ Lib.indexByte [32, 9, 10, 12, 13] n.toUInt8) = decide ((n : Int) = 32 ∨ (n : Int) = 9 ∨ (n : Int) = 10 ∨ (n : Int) = 12 ∨ (n : Int) = 13) := by decide +kernel
  obtain ⟨h0, h1⟩ := bt_range s i
  have h := this (bt s i).toNat (by omega)
  unfold white_isBlank.f isB
  rw [h, Int.toNat_of_nonneg h0]
theorem isb_b (c : Int) (k : Nat) (hk : 6 ≤ k) : clerestoryref3_blank.f k c = some (isB c) := by
  obtain ⟨k, rfl⟩ : ∃ q, k = q + 6 := ⟨k - 6, by omega⟩
  unfold clerestoryref3_blank.f clerestoryref3_Has_byte.f isB
  have w0 : wrap64 (0 + 1) = 1 := by decide +kernel
  have w1 : wrap64 (1 + 1) = 2 := by decide +kernel
  have w2 : wrap64 (2 + 1) = 3 := by decide +kernel
  have w3 : wrap64 (3 + 1) = 4 := by decide +kernel
  have w4 : wrap64 (4 + 1) = 5 := by decide +kernel
  simp only [clerestoryref3_Has_byte.l0, w0, w1, w2, w3, w4]
  simp [rd]
  by_cases a : c = 32
  · simp [a]
  · by_cases b : c = 9
    · simp [b]
    · by_cases e : c = 10
      · simp [e]
      · by_cases f : c = 12
        · simp [f]
        · by_cases g : c = 13
          · simp [g]
          · simp [a, b, e, f, g]
/-- What is told, and whether a blank was last, behind the first i bytes. -/
def st (s : ByteArray) (ahead : Bool) : Nat → List Int × Bool
  | 0 => ([], ahead)
  | i + 1 => if isB (bt s i) = true then (if (st s ahead i).2 = true then st s ahead i else ((st s ahead i).1 ++ [32], true)) else ((st s ahead i).1 ++ [bt s i], false)
theorem st_len (s : ByteArray) (ahead : Bool) (i : Nat) : (st s ahead i).1.length ≤ i := by
  induction i with
  | zero => simp [st]
  | succ i ih =>
    simp only [st]
    repeat' split
    all_goals first | omega | (simp; done) | (simp; omega)
theorem st_range (s : ByteArray) (ahead : Bool) (i : Nat) : ∀ x ∈ (st s ahead i).1, 0 ≤ x ∧ x ≤ 255 := by
  induction i with
  | zero => simp [st]
  | succ i ih =>
    have hb := bt_range s i
    simp only [st]
    repeat' split
    · exact ih
    · intro x hx
      rcases List.mem_append.1 hx with h | h
      · exact ih x h
      · simp at h; omega
    · intro x hx
      rcases List.mem_append.1 hx with h | h
      · exact ih x h
      · simp at h; omega
theorem st_blank (s : ByteArray) (ahead : Bool) (i : Nat) : (st s ahead (i + 1)).2 = isB (bt s i) := by
  simp only [st]
  by_cases h : isB (bt s i) = true
  · rw [if_pos h, h]
    split
    · assumption
    · rfl
  · rw [if_neg h]
    simp at h
    exact h.symm
theorem st_nil (s : ByteArray) (ahead : Bool) (i : Nat) : (st s ahead i).1 = [] → (st s ahead i).2 = ahead := by
  induction i with
  | zero => simp [st]
  | succ i ih =>
    simp only [st]
    repeat' split
    · exact ih
    · intro h; simp at h
    · intro h; simp at h
theorem st_last (s : ByteArray) (ahead : Bool) (i : Nat) (hne : (st s ahead i).1 ≠ []) : (st s ahead i).2 = decide ((st s ahead i).1.getLast hne = 32) := by
  induction i with
  | zero => simp [st] at hne
  | succ i ih =>
    simp only [st] at hne ⊢
    by_cases h : isB (bt s i) = true
    · simp only [if_pos h] at hne ⊢
      by_cases h2 : (st s ahead i).2 = true
      · simp only [if_pos h2] at hne ⊢
        exact ih hne
      · simp only [if_neg h2]
        simp
    · simp only [if_neg h]
      have : bt s i ≠ 32 := by rintro e; rw [e] at h; exact h rfl
      simp [this]
theorem col_a (s : ByteArray) (hs : s.size ≤ 400) (ahead : Bool) (d : Nat) : ∀ (k i : Nat), i + d = s.size → d < k →
    white_Collapse.l0 k s (st s ahead i).2 (st s ahead i).1 (s.size : Int) (i : Int) = some (strOfNums (st s ahead s.size).1, (st s ahead s.size).2) := by
  induction d with
  | zero =>
    intro k i h hk
    obtain ⟨k, rfl⟩ : ∃ q, k = q + 1 := ⟨k - 1, by omega⟩
    obtain rfl : i = s.size := by omega
    rw [white_Collapse.l0, if_neg (by omega)]
  | succ d ih =>
    intro k i h hk
    obtain ⟨k, rfl⟩ : ∃ q, k = q + 1 := ⟨k - 1, by omega⟩
    have hw : wrap64 ((i : Int) + 1) = ((i + 1 : Nat) : Int) := by unfold wrap64; omega
    have hl := st_len s ahead i
    have hih := ih k (i + 1) (by omega) (by omega)
    rw [white_Collapse.l0, if_pos (by omega), if_pos (by omega), if_pos (by omega), isb_a, hw, Option.bind_some]
    simp only [st] at hih
    by_cases h1 : isB (bt s i) = true
    · rw [if_pos h1]
      simp only [if_pos h1] at hih
      by_cases h2 : (st s ahead i).2 = true
      · rw [if_pos h2]
        simp only [if_pos h2] at hih
        exact hih
      · rw [if_neg h2, if_pos (by omega)]
        simp only [if_neg h2] at hih
        exact hih
    · rw [if_neg h1, if_pos (by omega)]
      simp only [if_neg h1] at hih
      exact hih
theorem col_b (s : ByteArray) (hs : s.size ≤ 400) (ahead : Bool) (d : Nat) : ∀ (k i : Nat), i + d = s.size → 2 * d + 8 < k →
    clerestoryref3_Collapse.l0 k s ahead (strOfNums (st s ahead i).1) (s.size : Int) (i : Int) = some (strOfNums (st s ahead s.size).1, (st s ahead s.size).2) := by
  induction d with
  | zero =>
    intro k i h hk
    obtain ⟨k, rfl⟩ : ∃ q, k = q + 1 := ⟨k - 1, by omega⟩
    obtain rfl : i = s.size := by omega
    rw [clerestoryref3_Collapse.l0, if_neg (by omega)]
    have hl := st_len s ahead s.size
    by_cases hn : (st s ahead s.size).1 = []
    · have h2 := st_nil s ahead s.size hn
      rw [if_pos (by rw [toList_nil, son_size, hn]; rfl), h2]
      cases ahead <;> rfl
    · have hp : 0 < (st s ahead s.size).1.length := List.length_pos_iff.mpr hn
      rw [if_neg (by rw [toList_nil, son_size]; omega)]
      have hw : wrap64 (((strOfNums (st s ahead s.size).1).size : Int) - 1) = (((st s ahead s.size).1.length - 1 : Nat) : Int) := by rw [son_size]; unfold wrap64; omega
      rw [hw, if_pos (by omega), if_pos (by rw [son_size]; omega), bt_son _ (st_range s ahead s.size) _ (by omega), st_last s ahead s.size hn, List.getLast_eq_getElem]
      congr 1
  | succ d ih =>
    intro k i h hk
    obtain ⟨k, rfl⟩ : ∃ q, k = q + 1 + 1 := ⟨k - 2, by omega⟩
    have hw : wrap64 ((i : Int) + 1) = ((i + 1 : Nat) : Int) := by unfold wrap64; omega
    have hl := st_len s ahead i
    have hih := ih k (i + 1) (by omega) (by omega)
    have hj : ∀ first : Bool, (first = true ∧ ¬ ((st s ahead i).1 = [] ∧ ahead = true) ↔ (st s ahead i).2 = false) → clerestoryref3_Collapse.j1 (k + 1) s ahead (strOfNums (st s ahead i).1) (i : Int) first (s.size : Int) (i : Int) = some (strOfNums (st s ahead s.size).1, (st s ahead s.size).2) := by
      intro first hf
      rw [clerestoryref3_Collapse.j1, if_pos (by omega), if_pos (by omega), isb_b _ _ (by omega), hw, Option.bind_some]
      simp only [st] at hih
      by_cases h1 : isB (bt s i) = true
      · rw [if_pos h1]
        simp only [if_pos h1] at hih
        have hsn : strOfNums ((st s ahead i).1 ++ [32]) = strOfNums (st s ahead i).1 ++ ⟨#[32]⟩ := son_snoc _ _
        by_cases h2 : (st s ahead i).2 = true
        · simp only [if_pos h2] at hih
          have hf' : ¬ (first = true ∧ ¬ ((st s ahead i).1 = [] ∧ ahead = true)) := fun e => by rw [hf.mp e] at h2; cases h2
          by_cases h3 : first = true
          · rw [if_pos h3]
            have h4 : (st s ahead i).1 = [] ∧ ahead = true := by
              refine Classical.byContradiction fun e => hf' ⟨h3, e⟩
            rw [if_pos (by rw [toList_nil, son_size, h4.1]; rfl), if_pos h4.2]
            exact hih
          · rw [if_neg h3]
            exact hih
        · simp only [if_neg h2] at hih
          rw [hsn] at hih
          have h2' : (st s ahead i).2 = false := by simpa using h2
          obtain ⟨h3, h4⟩ := hf.mpr h2'
          rw [if_pos h3]
          by_cases h5 : (st s ahead i).1 = []
          · rw [if_pos (by rw [toList_nil, son_size, h5]; rfl), if_neg (fun e => h4 ⟨h5, e⟩), if_pos (by rw [son_size]; omega)]
            exact hih
          · have hp : 0 < (st s ahead i).1.length := List.length_pos_iff.mpr h5
            rw [if_neg (by rw [toList_nil, son_size]; omega), if_pos (by rw [son_size]; omega)]
            exact hih
      · rw [if_neg h1]
        simp only [if_neg h1] at hih
        rw [if_pos (by omega), if_pos (by omega)]
        have he : s.extract ((i : Int)).toNat (((i + 1 : Nat) : Int)).toNat = ⟨#[UInt8.ofNat (bt s i).toNat]⟩ := by
          rw [Int.toNat_natCast, Int.toNat_natCast]
          exact ext_one s i (by omega)
        rw [he, if_pos (by rw [son_size]; show _ + 1 ≤ _; omega), ← son_snoc]
        exact hih
    rw [clerestoryref3_Collapse.l0, if_pos (by omega)]
    by_cases h0 : i = 0
    · subst h0
      rw [if_pos (by rfl)]
      refine hj true ?_
      simp [st]
    · rw [if_neg (by omega)]
      obtain ⟨j, rfl⟩ : ∃ j, i = j + 1 := ⟨i - 1, by omega⟩
      have hw2 : wrap64 (((j + 1 : Nat) : Int) - 1) = (j : Int) := by unfold wrap64; omega
      rw [hw2, if_pos (by omega), if_pos (by omega), isb_b _ _ (by omega), Option.bind_some]
      refine hj _ ?_
      rw [st_blank]
      by_cases h1 : isB (bt s j) = true
      · simp [h1]
      · have h1' : isB (bt s j) = false := by simpa using h1
        have hne : (st s ahead (j + 1)).1 ≠ [] := by
          simp only [st]
          rw [if_neg h1]
          simp
        simp [h1', hne]
theorem WhiteCollapses : clerestorylaw3_WhiteCollapses.Pure := by
  intro s mode ahead hs hm
  refine ⟨1000, ?_⟩
  have ca : ∀ (t : ByteArray) (m : Int) (b : Bool), t.size ≤ 400 → white_Collapse.f 1000 t m b = if m = 1 ∨ m = 3 then some (t, false) else some (strOfNums (st t b t.size).1, (st t b t.size).2) := by
    intro t m b ht
    unfold white_Collapse.f white_Keeps.f
    by_cases h : m = 1
    · simp [h]
    · by_cases h3 : m = 3
      · simp [h3]
      · have := col_a t ht b t.size 1000 0 (by omega) (by omega)
        simpa [h, h3, st] using this
  have cb : ∀ (t : ByteArray) (m : Int) (b : Bool), t.size ≤ 400 → clerestoryref3_Collapse.f 1000 t m b = if m = 1 ∨ m = 3 then some (t, false) else some (strOfNums (st t b t.size).1, (st t b t.size).2) := by
    intro t m b ht
    unfold clerestoryref3_Collapse.f clerestoryref3_Keeps.f
    by_cases h : m = 1
    · simp [h]
    · by_cases h3 : m = 3
      · simp [h3]
      · have := col_b t ht b t.size 1000 0 (by omega) (by omega)
        have e : strOfNums [] = ⟨#[]⟩ := rfl
        simpa [h, h3, st, e] using this
  have hmn : 0 ≤ mn (s.size : Int) 400 ∧ mn (s.size : Int) 400 ≤ (s.size : Int) ∧ mn (s.size : Int) 400 ≤ 400 := by unfold mn; split <;> omega
  unfold clerestorylaw3_WhiteCollapses.f
  rw [if_pos hmn.1, if_pos hmn.2.1]
  have hsz : (s.extract 0 (mn (s.size : Int) 400).toNat).size ≤ 400 := by rw [ByteArray.size_extract]; omega
  have hw : clerestorylaw3_whited.f 1000 = some true := by
    unfold clerestorylaw3_whited.f
    rw [ca _ _ _ (by decide)]
    decide +kernel
  rw [ca _ _ _ hsz, cb _ _ _ hsz, hw]
  split <;> simp

end Go.Proofs.Ytdmkofbndeicfaa.Pure
