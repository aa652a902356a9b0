/- BreaksAll and BreaksPieces in plain Lean, of texts of at most 1048576 bytes: both sides tell the same places, and the same pieces. -/
import Derived.Test.YtdmkofbndeicfaaQBreaksx3
namespace Go.Proofs.Ytdmkofbndeicfaa.QBreaks
open Go.RowKit Go.Proofs.YtdmkofbndeicfaaW.PrintWords Go.Proofs.YtdmkofbndeicfaaW.PrintLast Go.Proofs.YtdmkofbndeicfaaW.PrintMore
set_option linter.unusedVariables false
/-- The places rise, and lie between. -/
def Inc (hi : Int) : Int → List S46 → Prop
  | _, [] => True
  | lo, b :: l => lo < b.f0 ∧ b.f0 ≤ hi ∧ Inc hi b.f0 l
theorem Inc.lower {hi lo lo' : Int} {l : List S46} (h : Inc hi lo l) (hl : lo' ≤ lo) : Inc hi lo' l := by
  cases l with
  | nil => trivial
  | cons b l => exact ⟨by have := h.1; omega, h.2.1, h.2.2⟩
theorem brk_inc (W K : Bool) (s : ByteArray) (b : Nat) : ∀ (pos : Nat) (lo last : Int), lo < pos → lo < s.size → Inc s.size lo (brk W K s.size last (sig s b pos)) := by
  induction b with
  | zero =>
    intro pos lo last h1 h2
    simp only [sig, brk]
    split
    · exact ⟨h2, by simp, trivial⟩
    · trivial
  | succ b ih =>
    intro pos lo last h1 h2
    simp only [sig]
    by_cases hp : pos < s.size
    · rw [if_pos hp]
      have hw := decode_pos s pos hp
      simp only [brk]
      have hr := ih (pos + (Utf8.decode s pos).2) pos ((Utf8.decode s pos).1 : Int) (by omega) (by omega)
      repeat' split
      · exact ⟨h1, by simp; omega, hr⟩
      · exact ⟨h1, by simp; omega, hr⟩
      · exact hr.lower (by omega)
    · rw [if_neg hp]
      simp only [brk]
      split
      · exact ⟨h2, by simp, trivial⟩
      · trivial
theorem all_inc (W K : Bool) (s : ByteArray) : Inc s.size 0 (allB W K s) := by
  unfold allB left
  rw [if_pos rfl]
  cases hs : s.size with
  | zero => simp only [sig]; trivial
  | succ n =>
    simp only [sig]
    rw [if_pos (by omega)]
    have := brk_inc W K s n (0 + (Utf8.decode s 0).2) 0 ((Utf8.decode s 0).1 : Int) (by have := decode_pos s 0 (by omega); omega) (by omega)
    rw [hs] at this
    exact this
theorem rd_T (l : List S46) (i : Nat) (h : i < l.length) : l.drop i = rd_T46 l (i : Int) :: l.drop (i + 1) := by
  have e : rd_T46 l (i : Int) = l[i] := by simp [rd_T46, List.getD, h]
  rw [e]; exact List.drop_eq_getElem_cons h
/-- The pieces between. -/
def pcs (s : ByteArray) : Int → List ByteArray → List S46 → List ByteArray
  | lo, out, [] => if lo < s.size then out ++ [s.extract lo.toNat s.size] else out
  | lo, out, b :: l => pcs s b.f0 (out ++ [s.extract lo.toNat b.f0.toNat]) l
theorem pcs_b (s : ByteArray) (L : List S46) (hL : L.length ≤ 1048577) (d : Nat) : ∀ (k i : Nat) (lo : Int) (out : List ByteArray), i + d = L.length → d < k → 0 ≤ lo → lo ≤ s.size → out.length ≤ i → Inc s.size lo (L.drop i) →
    clerestoryref3_Pieces.l0 k s out lo L (L.length : Int) (i : Int) = some (pcs s lo out (L.drop i)) := by
  induction d with
  | zero =>
    intro k i lo out h hk h0 h1 ho hi
    obtain ⟨k, rfl⟩ : ∃ q, k = q + 1 := ⟨k - 1, by omega⟩
    obtain rfl : i = L.length := by omega
    rw [clerestoryref3_Pieces.l0, if_neg (by omega), List.drop_length]
    simp only [pcs]
    by_cases hlt : lo < s.size
    · rw [if_pos hlt, if_pos h0, if_pos h1, if_pos (by omega), if_pos hlt]
    · rw [if_neg hlt, if_neg hlt]
  | succ d ih =>
    intro k i lo out h hk h0 h1 ho hi
    obtain ⟨k, rfl⟩ : ∃ q, k = q + 1 := ⟨k - 1, by omega⟩
    have hw : wrap64 ((i : Int) + 1) = ((i + 1 : Nat) : Int) := by unfold wrap64; omega
    rw [rd_T L i (by omega)] at hi ⊢
    obtain ⟨i1, i2, i3⟩ := hi
    rw [clerestoryref3_Pieces.l0, if_pos (by omega), if_pos (by omega), if_pos (by omega), if_pos h0, if_pos (by omega), if_pos i2, if_pos (by omega), hw]
    rw [ih k (i + 1) _ _ (by omega) (by omega) (by omega) i2 (by simp; omega) i3]
    rfl
theorem rd_snoc (L : List S46) (z : S46) (i : Nat) (h : i < L.length) : rd_T46 (L ++ [z]) (i : Int) = rd_T46 L (i : Int) := by
  simp [rd_T46, List.getD, List.getElem?_append_left h]
theorem pcs_a (s : ByteArray) (hs : s.size ≤ 1048576) (L : List S46) (hL : L.length ≤ 1048577) (d : Nat) : ∀ (k i : Nat) (lo : Int) (out : List ByteArray), i + d = L.length → d + 1 < k → 0 ≤ lo → lo ≤ s.size → out.length ≤ i → Inc s.size lo (L.drop i) →
    breaks_Pieces.l0 k s out lo (L ++ [⟨(s.size : Int), false⟩]) ((L ++ [(⟨(s.size : Int), false⟩ : S46)]).length : Int) (i : Int) = some (pcs s lo out (L.drop i)) := by
  induction d with
  | zero =>
    intro k i lo out h hk h0 h1 ho hi
    obtain ⟨k, rfl⟩ : ∃ q, k = q + 1 + 1 := ⟨k - 2, by omega⟩
    obtain rfl : i = L.length := by omega
    have hw : wrap64 ((L.length : Int) + 1) = ((L.length + 1 : Nat) : Int) := by unfold wrap64; omega
    have hz : rd_T46 (L ++ [(⟨(s.size : Int), false⟩ : S46)]) (L.length : Int) = ⟨(s.size : Int), false⟩ := by simp [rd_T46, List.getD]
    have hl : (L ++ [(⟨(s.size : Int), false⟩ : S46)]).length = L.length + 1 := by simp
    rw [breaks_Pieces.l0, hl, if_pos (by omega), if_pos (by omega), if_pos (by omega), hz, hw, List.drop_length]
    simp only [pcs]
    by_cases hlt : lo < s.size
    · rw [if_pos (by omega), if_pos h0, if_pos (by omega), if_pos (by omega), if_pos (by omega), breaks_Pieces.l0, if_neg (by omega), if_pos hlt, Int.toNat_natCast]
    · rw [if_neg (by omega), breaks_Pieces.l0, if_neg (by omega), if_neg hlt]
  | succ d ih =>
    intro k i lo out h hk h0 h1 ho hi
    obtain ⟨k, rfl⟩ : ∃ q, k = q + 1 := ⟨k - 1, by omega⟩
    have hw : wrap64 ((i : Int) + 1) = ((i + 1 : Nat) : Int) := by unfold wrap64; omega
    have hl : (L ++ [(⟨(s.size : Int), false⟩ : S46)]).length = L.length + 1 := by simp
    rw [rd_T L i (by omega)] at hi ⊢
    obtain ⟨i1, i2, i3⟩ := hi
    rw [breaks_Pieces.l0, if_pos (by omega), if_pos (by omega), if_pos (by omega), rd_snoc L _ i (by omega), if_pos i1, if_pos h0, if_pos (by omega), if_pos i2, if_pos (by omega), hw]
    rw [ih k (i + 1) _ _ (by omega) (by omega) (by omega) i2 (by simp; omega) i3]
    rfl
theorem all_len (W K : Bool) (s : ByteArray) (hs : s.size ≤ 1048576) : (allB W K s).length ≤ 1048577 := by
  have : (allB W K s).length ≤ s.size + 1 := left_len W K s s.size 0 0
  omega
theorem pieces_a (s : ByteArray) (mode : Int) (hs : s.size ≤ 1048576) (k : Nat) (hk : 1048580 ≤ k) : breaks_Pieces.f k s mode = some (pcs s 0 [] (allB (wrapsB mode) (keepsB mode) s)) := by
  have hl := all_len (wrapsB mode) (keepsB mode) s hs
  unfold breaks_Pieces.f breaks_All.f
  rw [if_pos hs, Option.bind_some, if_pos (by omega), Option.bind_some]
  exact pcs_a s hs _ hl (allB (wrapsB mode) (keepsB mode) s).length k 0 0 [] (by omega) (by omega) (by omega) (by omega) (by simp) (all_inc _ _ s)
theorem pieces_b (s : ByteArray) (mode : Int) (hs : s.size ≤ 1048576) (k : Nat) (hk : 1048580 ≤ k) : clerestoryref3_Pieces.f k s mode = some (pcs s 0 [] (allB (wrapsB mode) (keepsB mode) s)) := by
  have hl := all_len (wrapsB mode) (keepsB mode) s hs
  unfold clerestoryref3_Pieces.f clerestoryref3_Breaks.f
  rw [if_pos hs, Option.bind_some]
  exact pcs_b s _ hl (allB (wrapsB mode) (keepsB mode) s).length k 0 0 [] (by omega) (by omega) (by omega) (by omega) (by simp) (all_inc _ _ s)
theorem eqB_l0 (l : List S46) (hl : l.length ≤ 1048577) (d : Nat) : ∀ (k i : Nat), i + d = l.length → d < k → api_LBreak.l0 k l l (l.length : Int) (i : Int) = some true := by
  induction d with
  | zero =>
    intro k i h hk
    obtain ⟨k, rfl⟩ : ∃ q, k = q + 1 := ⟨k - 1, by omega⟩
    rw [api_LBreak.l0, if_neg (by omega)]
  | succ d ih =>
    intro k i h hk
    obtain ⟨k, rfl⟩ : ∃ q, k = q + 1 := ⟨k - 1, by omega⟩
    have hw : wrap64 ((i : Int) + 1) = ((i + 1 : Nat) : Int) := by unfold wrap64; omega
    rw [api_LBreak.l0, if_pos (by omega), if_pos (by omega), if_pos (by omega), if_pos (by omega), if_neg (by simp), hw]
    exact ih k (i + 1) (by omega) (by omega)
theorem eqS_l0 (l : List ByteArray) (hl : l.length ≤ 1048579) (d : Nat) : ∀ (k i : Nat), i + d = l.length → d < k → clerestoryref3_Eq_string.l0 k l l (l.length : Int) (i : Int) = some true := by
  induction d with
  | zero =>
    intro k i h hk
    obtain ⟨k, rfl⟩ : ∃ q, k = q + 1 := ⟨k - 1, by omega⟩
    rw [clerestoryref3_Eq_string.l0, if_neg (by omega)]
  | succ d ih =>
    intro k i h hk
    obtain ⟨k, rfl⟩ : ∃ q, k = q + 1 := ⟨k - 1, by omega⟩
    have hw : wrap64 ((i : Int) + 1) = ((i + 1 : Nat) : Int) := by unfold wrap64; omega
    rw [clerestoryref3_Eq_string.l0, if_pos (by omega), if_pos (by omega), if_pos (by omega), if_pos (by omega), if_pos rfl, hw]
    exact ih k (i + 1) (by omega) (by omega)
theorem pcs_len (s : ByteArray) (l : List S46) : ∀ (lo : Int) (out : List ByteArray), (pcs s lo out l).length ≤ out.length + l.length + 1 := by
  induction l with
  | nil => intro lo out; simp only [pcs]; split <;> simp
  | cons b l ih =>
    intro lo out
    have := ih b.f0 (out ++ [s.extract lo.toNat b.f0.toNat])
    simp only [pcs, List.length_cons]
    simp only [List.length_append, List.length_singleton] at this
    omega
theorem broken_true (k : Nat) (hk : 1048580 ≤ k) : clerestorylaw3_broken.f k = some true := by
  unfold clerestorylaw3_broken.f
  rw [pieces_a _ _ (by decide) k hk, Option.bind_some]
  have e : pcs ⟨#[97, 32, 98]⟩ 0 [] (allB (wrapsB 0) (keepsB 0) ⟨#[97, 32, 98]⟩) = [⟨#[97, 32]⟩, ⟨#[98]⟩] := by decide +kernel
  rw [e]
  unfold clerestoryref3_Eq_string.f
  rw [if_pos rfl]
  have := eqS_l0 [(⟨#[97, 32]⟩ : ByteArray), ⟨#[98]⟩] (by decide) 2 k 0 (by decide) (by omega)
  rw [show ((0 : Nat) : Int) = 0 from rfl] at this
  rw [this]
  rfl
theorem BreaksAll (s : ByteArray) (mode : Int) (hs : s.size ≤ 1048576) : clerestorylaw3_BreaksAll.f 1048590 s mode = some true := by
  have hl := all_len (wrapsB mode) (keepsB mode) s hs
  unfold clerestorylaw3_BreaksAll.f
  rw [broken_true _ (by omega), Option.bind_some, if_pos rfl]
  unfold breaks_All.f clerestoryref3_Breaks.f
  rw [if_pos hs, Option.bind_some, Option.bind_some]
  unfold api_LBreak.f
  rw [if_pos rfl]
  have := eqB_l0 (allB (wrapsB mode) (keepsB mode) s) hl _ 1048590 0 (Nat.zero_add _) (by omega)
  rw [show ((0 : Nat) : Int) = 0 from rfl] at this
  rw [this]
  rfl
theorem BreaksPieces (s : ByteArray) (mode : Int) (hs : s.size ≤ 1048576) : clerestorylaw3_BreaksPieces.f 1048590 s mode = some true := by
  have hl := all_len (wrapsB mode) (keepsB mode) s hs
  have hp := pcs_len s (allB (wrapsB mode) (keepsB mode) s) 0 []
  rw [List.length_nil] at hp
  unfold clerestorylaw3_BreaksPieces.f
  rw [broken_true _ (by omega), Option.bind_some, if_pos rfl, pieces_a s mode hs _ (by omega), Option.bind_some, pieces_b s mode hs _ (by omega), Option.bind_some]
  unfold clerestoryref3_Eq_string.f
  rw [if_pos rfl]
  have := eqS_l0 (pcs s 0 [] (allB (wrapsB mode) (keepsB mode) s)) (by omega) _ 1048590 0 (Nat.zero_add _) (by omega)
  rw [show ((0 : Nat) : Int) = 0 from rfl] at this
  rw [this]
  rfl
theorem BreaksAll.walk (s : ByteArray) (mode : Int) (w : World) (hs : s.size ≤ 1048576) (_ : (Lit.int .i64 mode).wf = true) :
    Calls Try.prog 9 #[.string s, .int .i64 mode] w fun e w' => e = .returned (.bool true) ∧ Below w.heap.size w w' :=
  clerestorylaw3_BreaksAll.calls 1048590 s mode true w (BreaksAll s mode hs)
theorem BreaksPieces.walk (s : ByteArray) (mode : Int) (w : World) (hs : s.size ≤ 1048576) (_ : (Lit.int .i64 mode).wf = true) :
    Calls Try.prog 10 #[.string s, .int .i64 mode] w fun e w' => e = .returned (.bool true) ∧ Below w.heap.size w w' :=
  clerestorylaw3_BreaksPieces.calls 1048590 s mode true w (BreaksPieces s mode hs)
end Go.Proofs.Ytdmkofbndeicfaa.QBreaks
