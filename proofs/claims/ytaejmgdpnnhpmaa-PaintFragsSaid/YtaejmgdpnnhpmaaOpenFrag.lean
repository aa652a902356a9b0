/- A frag that came in by value: seven numbers and a text. -/
import Derived.Test.YtaejmgdpnnhpmaaOpen
import Derived.Test.YtaejmgdpnnhpmaaFrLaw
namespace Go.Proofs.Ytaejmgdpnnhpmaa.Open
open Go.ChangeShapes Go.WideShapes Go.Deep Go.RowKit Go.Proofs.YtaejmgdpnnhpmaaW.PrintWords Go.Proofs.Ytaejmgdpnnhpmaa.QSty
set_option linter.unusedVariables false
theorem open_frag {P : Program} {W : World} {r : Reach} {base : Nat} {t ti ts : TypeId} {v : Value} (hs : ∃ fs, P.underlying t = some (.struct fs))
    (hct : P.cellTypes P.depth t = some [ti, ti, ti, ti, ti, ti, ti, ts]) (hC : P.cellsOf t = 8) (hu : P.underlying ti = some (.int .i64)) (hus : P.underlying ts = some .string) (hv : Value.okWide P W r base t v) :
    ∃ f : Fr, v = .agg (frc f) := by
  have hv' : ∃ cs, v = .agg cs ∧ cs.size = P.cellsOf t ∧ Row.okWide P W r base t cs := by
    obtain ⟨fs, hs⟩ := hs
    simpa only [Value.okWide, hs] using hv
  obtain ⟨cs, rfl, hsz, us, hts, _, hcell⟩ := hv'
  rw [hct] at hts
  cases hts
  rw [hC] at hsz
  have gi : ∀ (i : Nat) (x : Value), i < 7 → cs[i]? = some x → ∃ n : Int, x = .int .i64 n := by
    intro i x hi hx
    obtain ⟨u, h1, h2⟩ := hcell i x hx
    have hu1 : u = ti := by
      rcases (by omega : i = 0 ∨ i = 1 ∨ i = 2 ∨ i = 3 ∨ i = 4 ∨ i = 5 ∨ i = 6) with rfl | rfl | rfl | rfl | rfl | rfl | rfl <;> simpa using h1.symm
    subst hu1
    simp only [Cell.okWide, hu] at h2
    revert h2
    cases x <;> simp [Cell.ok, hu, IntKind.has]
    exact fun h _ _ => h
  have gs : ∀ (x : Value), cs[7]? = some x → ∃ s : ByteArray, x = .string s := by
    intro x hx
    obtain ⟨u, h1, h2⟩ := hcell 7 x hx
    have hu1 : u = ts := by simpa using h1.symm
    subst hu1
    simp only [Cell.okWide, hus] at h2
    revert h2
    cases x <;> simp [Cell.ok, hus]
  obtain ⟨l⟩ := cs
  match l, hsz with
  | [x0, x1, x2, x3, x4, x5, x6, x7], _ =>
    obtain ⟨n0, rfl⟩ := gi 0 x0 (by omega) rfl
    obtain ⟨n1, rfl⟩ := gi 1 x1 (by omega) rfl
    obtain ⟨n2, rfl⟩ := gi 2 x2 (by omega) rfl
    obtain ⟨n3, rfl⟩ := gi 3 x3 (by omega) rfl
    obtain ⟨n4, rfl⟩ := gi 4 x4 (by omega) rfl
    obtain ⟨n5, rfl⟩ := gi 5 x5 (by omega) rfl
    obtain ⟨n6, rfl⟩ := gi 6 x6 (by omega) rfl
    obtain ⟨s7, rfl⟩ := gs x7 rfl
    exact ⟨⟨n0, n1, n2, n3, n4, n5, n6, s7⟩, rfl⟩
theorem PaintFrags.walk (f : Fr) (kind : Int) (xs : List Int) (w : World) (_ : (Lit.int .i64 kind).wf = true) (hl : xs.length = 118) (_ : ∀ n ∈ xs, (Lit.int .i64 n).wf = true) :
    Calls Try.prog 5 #[.agg (frc f), .int .i64 kind, .agg (nums .i64 xs).toArray] w fun e w' => e = .returned (.bool true) ∧ Below w.heap.size w w' := PaintFrags f kind xs hl w
end Go.Proofs.Ytaejmgdpnnhpmaa.Open
