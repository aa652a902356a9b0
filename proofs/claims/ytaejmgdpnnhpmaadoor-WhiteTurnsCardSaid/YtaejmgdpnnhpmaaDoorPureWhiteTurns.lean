/- WhiteTurns: Turn and Idle answer what the document's reference answers, of every text and mode. -/
import Derived.Test.YtaejmgdpnnhpmaaDoorQWhiteTurnsx2
namespace Go.Proofs.YtaejmgdpnnhpmaaDoor.Pure
open Go.RowKit Go.Proofs.YtaejmgdpnnhpmaaDoor.QWhiteTurns Go.Proofs.YtaejmgdpnnhpmaaDoorW.PrintWords Go.Proofs.YtaejmgdpnnhpmaaDoorW.PrintLast Go.Proofs.YtaejmgdpnnhpmaaDoorW.PrintMore

theorem son_snoc (xs : List Int) (c : Int) : strOfNums (xs ++ [c]) = strOfNums xs ++ ⟨#[UInt8.ofNat c.toNat]⟩ := by
  apply ByteArray.ext
  rw [ByteArray.data_append]
  simp [strOfNums]
theorem son_size (xs : List Int) : (strOfNums xs).size = xs.length := by
  show (strOfNums xs).data.size = _
  simp [strOfNums]
theorem ext_one (s : ByteArray) (i : Nat) (h : i < s.size) : s.extract i (i + 1) = ⟨#[UInt8.ofNat (bt s i).toNat]⟩ := by
  apply ByteArray.ext
  rw [ByteArray.data_extract]
  have hb : bt s i = ((s[i]'h).toNat : Int) := by simp [bt, h]
  rw [hb]
  apply Array.ext
  · have : s.data.size = s.size := rfl
    simp; omega
  · intro j h1 h2
    have h3 : j = 0 := by simpa using h2
    subst h3
    simp
    rfl
theorem toList_nil (s : ByteArray) : s.toList = [] ↔ s.size = 0 := by
  rw [show s.toList = s.data.toList from Lib.toList_data s]
  constructor
  · intro h
    show s.data.size = 0
    rw [← Array.length_toList, h]; rfl
  · intro h
    have h' : s.data.size = 0 := h
    exact List.eq_nil_of_length_eq_zero (by rw [Array.length_toList]; exact h')
theorem bt_son (xs : List Int) (h : ∀ x ∈ xs, 0 ≤ x ∧ x ≤ 255) (i : Nat) (hi : i < xs.length) : bt (strOfNums xs) i = xs[i] := by
  have h0 : i < (strOfNums xs).size := by rw [son_size]; exact hi
  have hb : bt (strOfNums xs) i = (((strOfNums xs)[i]'h0).toNat : Int) := by simp [bt, h0]
  rw [hb]
  have e : (strOfNums xs)[i]'h0 = UInt8.ofNat (xs[i]).toNat := by
    show (strOfNums xs).data[i] = _
    simp [strOfNums]
  rw [e]
  have := h _ (List.getElem_mem hi)
  simp
  omega

/-- Is a byte a blank? -/
def isB (c : Int) : Bool := decide (c = 32 ∨ c = 9 ∨ c = 10 ∨ c = 12 ∨ c = 13)
theorem isb_a (s : ByteArray) (i : Nat) : white_isBlank.f (bt s i) = some (isB (bt s i)) := by
  have : ∀ n : Nat, n < 256 → decide (0 ≤ Lib.indexByte [32, 9, 10, 12, 13] n.toUInt8) = decide ((n : Int) = 32 ∨ (n : Int) = 9 ∨ (n : Int) = 10 ∨ (n : Int) = 12 ∨ (n : Int) = 13) := by decide +kernel
  obtain ⟨h0, h1⟩ := bt_range s i
  have h := this (bt s i).toNat (by omega)
  unfold white_isBlank.f isB
  rw [h, Int.toNat_of_nonneg h0]
theorem isb_b (c : Int) (k : Nat) (hk : 6 ≤ k) : clerestoryref3_blank.f k c = some (isB c) := by
  obtain ⟨k, rfl⟩ : ∃ q, k = q + 6 := ⟨k - 6, by omega⟩
  unfold clerestoryref3_blank.f clerestoryref3_Has_byte.f isB
  have w0 : wrap64 (0 + 1) = 1 := by decide +kernel
  have w1 : wrap64 (1 + 1) = 2 := by decide +kernel
  have w2 : wrap64 (2 + 1) = 3 := by decide +kernel
  have w3 : wrap64 (3 + 1) = 4 := by decide +kernel
  have w4 : wrap64 (4 + 1) = 5 := by decide +kernel
  simp only [clerestoryref3_Has_byte.l0, w0, w1, w2, w3, w4]
  simp [rd]
  by_cases a : c = 32
  · simp [a]
  · by_cases b : c = 9
    · simp [b]
    · by_cases e : c = 10
      · simp [e]
      · by_cases f : c = 12
        · simp [f]
        · by_cases g : c = 13
          · simp [g]
          · simp [a, b, e, f, g]
theorem isb_u (b : UInt8) : ([32, 9, 10, 12, 13] : List UInt8).contains b = isB (b.toNat : Int) := by
  have : ∀ n : Nat, n < 256 → ([32, 9, 10, 12, 13] : List UInt8).contains n.toUInt8 = decide ((n : Int) = 32 ∨ (n : Int) = 9 ∨ (n : Int) = 10 ∨ (n : Int) = 12 ∨ (n : Int) = 13) := by decide +kernel
  have h := this b.toNat b.toNat_lt
  rw [show b.toNat.toUInt8 = b from by simp] at h
  exact h
theorem dw (p : UInt8 → Bool) : ∀ l : List UInt8, (∀ x ∈ l.dropWhile p, p x = true) → ∀ x ∈ l, p x = true
  | [], _ => by simp
  | a :: l, h => by
    by_cases ha : p a = true
    · rw [List.dropWhile_cons_of_pos ha] at h
      intro x hx
      rcases List.mem_cons.1 hx with rfl | hx
      · exact ha
      · exact dw p l h x hx
    · rw [List.dropWhile_cons_of_neg ha] at h
      exact h
theorem dw_all (p : UInt8 → Bool) : ∀ l : List UInt8, (∀ x ∈ l, p x = true) → l.dropWhile p = []
  | [], _ => rfl
  | a :: l, h => by
    rw [List.dropWhile_cons_of_pos (h a (by simp))]
    exact dw_all p l fun x hx => h x (by simp [hx])
theorem trim_empty (l cs : List UInt8) : (Lib.trimS l cs).isEmpty = true ↔ ∀ x ∈ l, cs.contains x = true := by
  rw [List.isEmpty_iff]
  unfold Lib.trimS
  constructor
  · intro h x hx
    have h1 := dw (cs.contains ·) (Lib.trimRightS l cs) (by
      have h' : (Lib.trimRightS l cs).dropWhile (cs.contains ·) = [] := h
      rw [h']
      simp)
    refine dw (cs.contains ·) l.reverse (fun y hy => h1 y ?_) x (by simp [hx])
    unfold Lib.trimRightS
    exact List.mem_reverse.2 hy
  · intro h
    have h1 : Lib.trimRightS l cs = [] := by
      unfold Lib.trimRightS
      rw [dw_all _ _ (fun x hx => h x (by simpa using hx))]
      rfl
    rw [h1]
    rfl
theorem bt_at (s : ByteArray) (j : Nat) (h : j < s.size) : ∃ b, s.data.toList[j]? = some b ∧ bt s (j : Int) = (b.toNat : Int) := by
  have h' : j < s.data.toList.length := by rw [data_length]; exact h
  refine ⟨s.data.toList[j], List.getElem?_eq_getElem h', ?_⟩
  simp [bt, h]
  rfl
theorem idle_iff (s : ByteArray) : idle s = true ↔ ∀ j : Nat, j < s.size → isB (bt s (j : Int)) = true := by
  unfold idle
  rw [trim_empty]
  constructor
  · intro h j hj
    obtain ⟨b, hb, e⟩ := bt_at s j hj
    rw [e, ← isb_u]
    exact h b (List.mem_of_getElem? hb)
  · intro h x hx
    obtain ⟨j, hj⟩ := List.getElem?_of_mem hx
    have hl : j < s.size := by
      have := (List.getElem?_eq_some_iff.1 hj).1
      rwa [data_length] at this
    obtain ⟨b, hb, e⟩ := bt_at s j hl
    rw [hj] at hb
    obtain rfl := Option.some.inj hb
    rw [isb_u, ← e]
    exact h j hl
theorem idle_b (s : ByteArray) (hs : s.size ≤ 400) (d : Nat) : ∀ (k i : Nat), i + d = s.size → d + 8 < k →
    ∃ b, clerestoryref3_Idle.l0 k s (s.size : Int) (i : Int) = some b ∧ (b = true ↔ ∀ j : Nat, i ≤ j → j < s.size → isB (bt s (j : Int)) = true) := by
  induction d with
  | zero =>
    intro k i h hk
    obtain ⟨k, rfl⟩ : ∃ q, k = q + 1 := ⟨k - 1, by omega⟩
    rw [clerestoryref3_Idle.l0, if_neg (by omega)]
    exact ⟨true, rfl, by simp; omega⟩
  | succ d ih =>
    intro k i h hk
    obtain ⟨k, rfl⟩ : ∃ q, k = q + 1 := ⟨k - 1, by omega⟩
    have hw : wrap64 ((i : Int) + 1) = ((i + 1 : Nat) : Int) := by unfold wrap64; omega
    rw [clerestoryref3_Idle.l0, if_pos (by omega), if_pos (by omega), if_pos (by omega), isb_b _ _ (by omega), hw, Option.bind_some]
    obtain ⟨b, hb, hi⟩ := ih k (i + 1) (by omega) (by omega)
    by_cases hB : isB (bt s (i : Int)) = true
    · rw [if_pos hB]
      refine ⟨b, hb, hi.trans ⟨fun h' j h1 h2 => ?_, fun h' j h1 h2 => h' j (by omega) h2⟩⟩
      rcases (by omega : j = i ∨ i + 1 ≤ j) with rfl | h3
      · exact hB
      · exact h' j h3 h2
    · rw [if_neg hB]
      refine ⟨false, rfl, ?_⟩
      simp only [Bool.false_eq_true, false_iff]
      intro h'
      exact hB (h' i (Nat.le_refl _) (by omega))
/-- A byte, by the reference. -/
def vt (m c : Int) : Int := if m = 1 then tc 1 c else if m = 2 then tc 2 c else c
/-- The first i bytes, turned. -/
def part_ (m : Int) (s : ByteArray) (i : Nat) : List Int := (List.range i).map fun j : Nat => vt m (bt s (j : Int))
theorem part_len (m : Int) (s : ByteArray) (i : Nat) : (part_ m s i).length = i := by simp [part_]
theorem part_succ (m : Int) (s : ByteArray) (i : Nat) : part_ m s (i + 1) = part_ m s i ++ [vt m (bt s (i : Int))] := by simp [part_, List.range_succ]
theorem turn_b (m : Int) (s : ByteArray) (hs : s.size ≤ 400) (d : Nat) : ∀ (k i : Nat), i + d = s.size → 2 * d + 2 < k →
    clerestoryref3_Turn.l0 k s m (strOfNums (part_ m s i)) (s.size : Int) (i : Int) = some (strOfNums (part_ m s s.size)) := by
  induction d with
  | zero =>
    intro k i h hk
    obtain ⟨k, rfl⟩ : ∃ q, k = q + 1 := ⟨k - 1, by omega⟩
    obtain rfl : i = s.size := by omega
    rw [clerestoryref3_Turn.l0, if_neg (by omega)]
  | succ d ih =>
    intro k i h hk
    obtain ⟨k, rfl⟩ : ∃ q, k = q + 1 + 1 := ⟨k - 2, by omega⟩
    have hw : wrap64 ((i : Int) + 1) = ((i + 1 : Nat) : Int) := by unfold wrap64; omega
    have hih := ih k (i + 1) (by omega) (by omega)
    rw [part_succ] at hih
    have hsn : ∀ c : Int, strOfNums (part_ m s i ++ [c]) = strOfNums (part_ m s i) ++ strOfNums [c] := fun c => by rw [son_snoc]; rfl
    have hz : ∀ c : Int, (strOfNums (part_ m s i)).size + (strOfNums [c]).size ≤ 9223372036854775807 := fun c => by rw [son_size, son_size, part_len]; simp; omega
    have hr := bt_range s i
    have key : ∀ c : Int, c = vt m (bt s (i : Int)) → clerestoryref3_Turn.l0 k s m (strOfNums (part_ m s i) ++ strOfNums [c]) (s.size : Int) ((i + 1 : Nat) : Int) = some (strOfNums (part_ m s s.size)) := by
      rintro c rfl
      rw [← hsn]
      exact hih
    rw [clerestoryref3_Turn.l0, if_pos (by omega), if_pos (by omega), if_pos (by omega)]
    have hj : ∀ b : Bool, (b = true ↔ m = 1 ∧ 97 ≤ bt s (i : Int) ∧ bt s (i : Int) ≤ 122) → clerestoryref3_Turn.j1 (k + 1) s m (strOfNums (part_ m s i)) (bt s (i : Int)) (s.size : Int) (i : Int) b = some (strOfNums (part_ m s s.size)) := by
      intro b hb
      rw [clerestoryref3_Turn.j1, hw]
      generalize bt s (i : Int) = c at hb key hr
      unfold vt tc at key
      have ht : ∀ c' : Int, (if (strOfNums (part_ m s i)).size + (strOfNums [c']).size ≤ 9223372036854775807 then clerestoryref3_Turn.l0 k s m (strOfNums (part_ m s i) ++ strOfNums [c']) (s.size : Int) ((i + 1 : Nat) : Int) else none) = clerestoryref3_Turn.l0 k s m (strOfNums (part_ m s i) ++ strOfNums [c']) (s.size : Int) ((i + 1 : Nat) : Int) := fun c' => if_pos (hz c')
      simp only [Option.bind_some, ht]
      by_cases h1 : b = true
      · rw [if_pos h1]
        obtain ⟨h2, h3, h4⟩ := hb.mp h1
        refine key _ ?_
        rw [if_pos h2, if_pos rfl, if_pos h3, if_pos h4]
        omega
      · rw [if_neg h1]
        by_cases h2 : m = 2
        · rw [if_pos h2]
          have h5 : ¬ m = 1 := by omega
          by_cases h3 : 65 ≤ c
          · rw [if_pos h3]
            by_cases h4 : c ≤ 90
            · rw [if_pos h4]
              refine key _ ?_
              rw [if_neg h5, if_pos h2, if_neg (by decide), if_pos h3, if_pos h4]
              omega
            · rw [if_neg h4]
              refine key _ ?_
              rw [if_neg h5, if_pos h2, if_neg (by decide), if_pos h3, if_neg h4]
          · rw [if_neg h3]
            refine key _ ?_
            rw [if_neg h5, if_pos h2, if_neg (by decide), if_neg h3]
        · rw [if_neg h2]
          refine key _ ?_
          by_cases h5 : m = 1
          · rw [if_pos h5, if_pos rfl]
            have h6 : ¬ (97 ≤ c ∧ c ≤ 122) := fun e => h1 (hb.mpr ⟨h5, e.1, e.2⟩)
            by_cases h7 : 97 ≤ c
            · rw [if_pos h7, if_neg (by omega)]
            · rw [if_neg h7]
          · rw [if_neg h5, if_neg h2]
    by_cases h1 : m = 1
    · rw [if_pos h1]
      by_cases h2 : 97 ≤ bt s (i : Int)
      · rw [if_pos h2]
        refine hj _ ?_
        simp [h1, h2]
      · rw [if_neg h2]
        refine hj _ ?_
        simp
        omega
    · rw [if_neg h1]
      refine hj _ ?_
      simp [h1]
theorem son_bytes (s : ByteArray) : strOfNums ((List.range s.size).map fun j : Nat => bt s (j : Int)) = s := by
  apply ByteArray.ext
  apply Array.ext
  · show (strOfNums _).size = s.size
    rw [son_size]
    simp
  · intro j h1 h2
    have hj : j < s.size := h2
    simp [strOfNums, bt, hj]
    rfl
theorem WhiteTurns : clerestorylaw3_WhiteTurns.Pure := by
  intro s m hs hm
  refine ⟨1000, ?_⟩
  have hmn : 0 ≤ mn (s.size : Int) 400 ∧ mn (s.size : Int) 400 ≤ (s.size : Int) ∧ mn (s.size : Int) 400 ≤ 400 := by unfold mn; split <;> omega
  unfold clerestorylaw3_WhiteTurns.f
  rw [if_pos hmn.1, if_pos hmn.2.1]
  have hsz : (s.extract 0 (mn (s.size : Int) 400).toNat).size ≤ 400 := by rw [ByteArray.size_extract]; omega
  have hw : clerestorylaw3_whited.f 1000 = some true := by decide +kernel
  rw [hw, Option.bind_some, if_pos rfl]
  generalize s.extract 0 (mn (s.size : Int) 400).toNat = t at hsz
  have h1 : white_Turn.f t m = some (strOfNums (part_ m t t.size)) := by
    unfold white_Turn.f turned part_ vt
    rw [if_pos hsz]
    by_cases c1 : m = 1
    · subst c1; simp
    · by_cases c2 : m = 2
      · subst c2; simp
      · simp only [if_neg c1, if_neg c2]
        rw [son_bytes]
  have h2 : clerestoryref3_Turn.f 1000 t m = some (strOfNums (part_ m t t.size)) := by
    have := turn_b m t hsz t.size 1000 0 (by omega) (by omega)
    exact this
  have h3 : white_Idle.f t = some (idle t) := by unfold white_Idle.f; rw [if_pos hsz]
  obtain ⟨b, h4, h5⟩ := idle_b t hsz t.size 1000 0 (by omega) (by omega)
  have h4' : clerestoryref3_Idle.f 1000 t = some b := h4
  rw [h1, h2, h3, h4']
  simp only [Option.bind_some]
  have e : idle t = b := by
    rw [Bool.eq_iff_iff, idle_iff, h5]
    exact ⟨fun h j _ hj => h j hj, fun h j hj => h j (by omega) hj⟩
  rw [e]
  simp

end Go.Proofs.YtaejmgdpnnhpmaaDoor.Pure
