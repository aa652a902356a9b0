/- How arguments handed in are read: a struct or an array of whole numbers by value. Plain theorems over whatever program. -/
import Derived.WideShapes
import Derived.ChangeSame
import Derived.SizedLaws
import Derived.ChangeSlices
import Derived.Deep.Slices
import Derived.Lib.SmallJoins
import Derived.Test.YtaejmgdpnnhpmaaWWords
namespace Go.Proofs.Ytaejmgdpnnhpmaa.Open
open Go.ChangeShapes Go.WideShapes Go.Deep Go.RowKit Go.Proofs.YtaejmgdpnnhpmaaW.PrintWords
set_option linter.unusedVariables false
theorem vals_of (cs : List Value) (h : ∀ v ∈ cs, ∃ x : Int, v = .int .i64 x ∧ (Lit.int .i64 x).wf = true) : ∃ xs : List Int, cs = nums .i64 xs ∧ ∀ x ∈ xs, (Lit.int .i64 x).wf = true := by
  induction cs with
  | nil => exact ⟨[], rfl, by simp⟩
  | cons v cs ih =>
    obtain ⟨x, rfl, hx⟩ := h v (by simp)
    obtain ⟨xs, rfl, hxs⟩ := ih fun v hv => h v (by simp [hv])
    exact ⟨x :: xs, rfl, by simpa using ⟨hx, hxs⟩⟩
/-- A struct, or an array, whose cells are all ints, by value. -/
theorem open_cells {P : Program} {W : World} {r : Reach} {base n : Nat} {t e : TypeId} {v : Value} (hs : (∃ fs, P.underlying t = some (.struct fs)) ∨ ∃ m u, P.underlying t = some (.array m u))
    (hct : P.cellTypes P.depth t = some (List.replicate n e)) (hC : P.cellsOf t = n) (hu : P.underlying e = some (.int .i64)) (hv : Value.okWide P W r base t v) :
    ∃ xs : List Int, v = .agg (nums .i64 xs).toArray ∧ xs.length = n ∧ ∀ x ∈ xs, (Lit.int .i64 x).wf = true := by
  have hv' : ∃ cs, v = .agg cs ∧ cs.size = P.cellsOf t ∧ Row.okWide P W r base t cs := by
    rcases hs with ⟨fs, hs⟩ | ⟨m, u, hs⟩ <;> simpa only [Value.okWide, hs] using hv
  obtain ⟨cs, rfl, hsz, ts, hts, _, hcell⟩ := hv'
  rw [hct] at hts
  cases hts
  obtain ⟨xs, hx, hw⟩ := vals_of cs.toList (by
    intro v hv
    obtain ⟨i, hi, rfl⟩ := List.mem_iff_getElem.1 hv
    obtain ⟨u, h1, h2⟩ := hcell i (cs[i]'(by simpa using hi)) (by simp)
    have hu1 : u = e := by
      have hm := List.mem_of_getElem? h1
      exact List.eq_of_mem_replicate hm
    subst hu1
    simp only [Array.getElem_toList]
    simp only [Cell.okWide, hu] at h2
    revert h2
    cases cs[i]'(by simpa using hi) <;> simp [Cell.ok, hu, IntKind.has, Lit.wf]
    rintro rfl a b
    exact ⟨_, ⟨rfl, rfl⟩, a, b⟩)
  refine ⟨xs, ?_, ?_, hw⟩
  · congr 1
    apply Array.ext'
    simpa using hx
  · have : (nums .i64 xs).length = cs.size := by rw [← hx]; simp
    rw [nums_length] at this
    omega
/-- A slice of whole numbers, as it was handed in. -/
def IsRow (k : IntKind) (w : World) (a : Option Addr) (len cap : Nat) (zs : List Int) : Prop :=
  (a = none ∧ len = 0 ∧ cap = 0 ∧ zs = []) ∨
  ∃ x, a = some x ∧ len ≤ cap ∧ cap ≤ maxLen ∧ zs.length = cap ∧ (∀ i, i < zs.length → w.cell? (x.add i) = some (.int k (zs.getD i 0))) ∧ ∀ n ∈ zs, (Lit.int k n).wf = true
/-- A slice that came in is no longer than its weight allows. -/
theorem sized_list {H : Type} {enc : TypeId × Value → H} {P : Program} {W : World} {base : Nat} {spare : Nat → Bool} {held : Bool} {t e : TypeId} {a : Option Addr} {len cap : Nat} {d : DataW H} {ps : List MemPlace} {ts : List TypeId} {ds : List (DataW H)} {j : Nat}
    (hsz : (DataW.weightsEach P ts ds).all (· ≤ reachBytes) = true) (ht : ts[j]? = some t) (hd : ds[j]? = some d) (hu : P.underlying t = some (.slice e)) {B : Nat} (hB : P.bytesOf e = B)
    (h : DataW.Trod enc P W base spare held t (.slice a len cap) d ps) : len * B ≤ 140737488351232 := by
  obtain ⟨fuel, hf⟩ := h
  rcases open_slice hu hf with ⟨hcs, _⟩ | ⟨x, l, c, m, n, D, Pl, hcs, _, hl, hm, hmm, hx, _⟩
  · simp [Value.cells] at hcs
    obtain ⟨rfl, rfl, rfl⟩ := hcs
    simp
  · simp [Value.cells] at hcs
    obtain ⟨rfl, rfl, rfl⟩ := hcs
    obtain ⟨hx, _⟩ := Prod.mk.inj hx
    subst hx
    have z := sized_slice hsz ht hd hu
    rw [hB] at z
    have h1 : len ≤ ((List.range len).map D).length + ((List.range (m - len)).map fun j => D (len + j)).length := by simp
    exact Nat.le_trans (Nat.mul_le_mul_right _ h1) z
theorem list2 {α : Type} {l : List α} (h : l.length = 2) : ∃ a b, l = [a, b] := by
  match l, h with
  | [a, b], _ => exact ⟨a, b, rfl⟩
end Go.Proofs.Ytaejmgdpnnhpmaa.Open
