/- breaks.All, walked by hand: where lines may end, out of a text's signs. -/
import Derived.Test.YtdmkofbndeicfaaGivBreaks2
import Derived.Lib.OthersKept
import Derived.WalkSmall
namespace Go.Proofs.Ytdmkofbndeicfaa.QBreaks
open Go.RowKit Go.Proofs.YtdmkofbndeicfaaW.PrintWords Go.Proofs.YtdmkofbndeicfaaW.PrintLast Go.Proofs.YtdmkofbndeicfaaW.PrintMore
set_option linter.unusedVariables false
set_option linter.unusedSimpArgs false
/-- The signs of a text from a place on: where each stands, and which it is. -/
def sig (s : ByteArray) : Nat → Nat → List (Int × Int)
  | 0, _ => []
  | b + 1, pos => if pos < s.size then ((pos : Int), ((Utf8.decode s pos).1 : Int)) :: sig s b (pos + (Utf8.decode s pos).2) else []
theorem decode_pos (s : ByteArray) (pos : Nat) (h : pos < s.size) : 1 ≤ (Utf8.decode s pos).2 := by
  by_cases ha : (s[pos]'h).toNat < 128
  · rw [decode_ascii s pos h ha]
    exact Nat.le_refl _
  · exact (decode_high s pos h (by omega)).2
theorem sig_len (s : ByteArray) (b : Nat) : ∀ pos, (sig s b pos).length ≤ s.size - pos := by
  induction b with
  | zero => intro pos; simp [sig]
  | succ b ih =>
    intro pos
    simp only [sig]
    split
    · rename_i h
      have h1 := ih (pos + (Utf8.decode s pos).2)
      have h2 := decode_pos s pos h
      simp only [List.length_cons]
      omega
    · simp
/-- The places behind a sign that was last. -/
def brk (wraps keeps : Bool) (n : Int) : Int → List (Int × Int) → List S46
  | last, [] => if keeps = true ∧ last = 10 then [⟨n, true⟩] else []
  | last, (i, r) :: l => (if keeps = true ∧ last = 10 then [⟨i, true⟩] else if wraps = true ∧ mayB last r = true then [⟨i, false⟩] else []) ++ brk wraps keeps n r l
theorem brk_len (wraps keeps : Bool) (n : Int) (l : List (Int × Int)) : ∀ last, (brk wraps keeps n last l).length ≤ l.length + 1 := by
  induction l with
  | nil => intro last; simp only [brk]; split <;> simp
  | cons x l ih =>
    intro last
    obtain ⟨i, r⟩ := x
    have := ih r
    simp only [brk, List.length_append, List.length_cons]
    repeat' split
    all_goals simp
    all_goals omega
/-- What is left to tell, at a place. -/
def left (wraps keeps : Bool) (s : ByteArray) (pos : Nat) (last : Int) (l : List (Int × Int)) : List S46 :=
  if pos = 0 then (match l with | [] => [] | x :: l => brk wraps keeps s.size x.2 l) else brk wraps keeps s.size last l
def allB (wraps keeps : Bool) (s : ByteArray) : List S46 := left wraps keeps s 0 0 (sig s s.size 0)
def wrapsB (mode : Int) : Bool := decide (mode = 0 ∨ mode = 3)
def keepsB (mode : Int) : Bool := decide (mode = 1 ∨ mode = 3)
theorem left_len (wraps keeps : Bool) (s : ByteArray) (b pos : Nat) (last : Int) : (left wraps keeps s pos last (sig s b pos)).length ≤ s.size + 1 := by
  have h := sig_len s b pos
  unfold left
  split
  · split
    · simp
    · rename_i x l e
      rw [e] at h
      have := brk_len wraps keeps s.size l x.2
      simp only [List.length_cons] at h
      omega
  · have := brk_len wraps keeps s.size (sig s b pos) last
    omega
theorem left_step (wraps keeps : Bool) (s : ByteArray) (b pos : Nat) (last : Int) (h : pos < s.size) (h0 : 0 < pos) :
    left wraps keeps s pos last (sig s (b + 1) pos) = (if keeps = true ∧ last = 10 then [(⟨(pos : Int), true⟩ : S46)] else if wraps = true ∧ mayB last ((Utf8.decode s pos).1 : Int) = true then [⟨(pos : Int), false⟩] else []) ++
      left wraps keeps s (pos + (Utf8.decode s pos).2) ((Utf8.decode s pos).1 : Int) (sig s b (pos + (Utf8.decode s pos).2)) := by
  simp only [left, sig, if_pos h, brk]
  rw [if_neg (show ¬ pos = 0 by omega), if_neg (show ¬ pos + (Utf8.decode s pos).2 = 0 by omega)]
theorem left_first (wraps keeps : Bool) (s : ByteArray) (b : Nat) (last : Int) (h : 0 < s.size) :
    left wraps keeps s 0 last (sig s (b + 1) 0) = left wraps keeps s (0 + (Utf8.decode s 0).2) ((Utf8.decode s 0).1 : Int) (sig s b (0 + (Utf8.decode s 0).2)) := by
  have h1 := decode_pos s 0 h
  simp only [left, sig, if_pos h, if_true]
  rw [if_neg (show ¬ 0 + (Utf8.decode s 0).2 = 0 by omega)]
theorem left_end (wraps keeps : Bool) (s : ByteArray) (b pos : Nat) (last : Int) (h : ¬ pos < s.size) (h0 : pos = 0 → last ≠ 10) :
    left wraps keeps s pos last (sig s b pos) = if keeps = true ∧ last = 10 then [(⟨(s.size : Int), true⟩ : S46)] else [] := by
  have e : sig s b pos = [] := by
    cases b with
    | zero => rfl
    | succ b => simp only [sig]; rw [if_neg h]
  rw [e]
  unfold left
  split
  · rename_i h1
    rw [if_neg (fun e => h0 h1 e.2)]
  · rfl
/-- A row of one's own, behind a step of the iterator. -/
theorem R_iter {α : Type} {d : Kd α} {e base : Nat} {ok : Nat → Prop} {w : World} {v : Value} {xs : List α} {k : Nat} {s : ByteArray} (h : d.R e w base ok v xs) (hk : k < base) (pos : Nat) : d.R e (w.iterAt k s pos) base ok v xs := by
  have h2 := Kd.R_bound h
  exact Kd.R_mono (Kd.R_move h2 (fun j hj => Lib.iterAt_other w k j s pos (by have := hj.2.1; omega))) (fun j hj => hj.1)
end Go.Proofs.Ytdmkofbndeicfaa.QBreaks
