/- Styles in rows: an array of 59 values, 118 numbers each; how a list of styles, and the variable of initial values, that came in are read. -/
import Derived.Deep.Slices
import Derived.ChangeSame
import Derived.SizedLaws
import Derived.ChangeSlices
import Derived.Lib.LaidTab
import Derived.Test.YtmaalgnedojfjaaDoorOpenBoxes
namespace Go.Proofs.YtmaalgnedojfjaaDoor.PBoxesLooks
open Go.ChangeShapes Go.WideShapes Go.Deep Go.RowKit Go.Proofs.YtmaalgnedojfjaaDoorW.PrintWords Go.Proofs.YtmaalgnedojfjaaDoorW.PrintLast Go.Proofs.YtmaalgnedojfjaaDoorW.PrintMore
set_option linter.unusedVariables false
theorem nums_len (xs : List Int) : (nums .i64 xs).length = xs.length := by simp [nums]
theorem nums_one (xs : List Int) : ∀ u ∈ nums .i64 xs, u.oneCell' = true := by
  intro u hu
  simp only [nums, List.mem_map] at hu
  obtain ⟨x, _, rfl⟩ := hu
  rfl
/-- A style in a row. -/
def kS : Kd (List Int) where
  sz := 118
  E := []
  K := fun _ xs cs => xs.length = 118 ∧ cs = nums .i64 xs
  M := fun _ _ _ xs cs => xs.length = 118 ∧ cs = nums .i64 xs
  K_len := fun h => by rw [h.2, nums_len, h.1]
  K_one := fun h => by rw [h.2]; exact nums_one _
  K_below := fun _ h => h
  K_of_M := fun h => h
  M_mono := fun _ h => h
  M_bound := fun h => h
  M_move := fun _ h => h
  M_lower := fun _ h => h
def zS : List Int := List.replicate 118 0
/-- The cells of an array of structs of two numbers. -/
theorem trod_style {H : Type} {enc : TypeId × Value → H} {P : Program} {w : World} {base : Nat} {sp : Nat → Bool} {held : Bool} {fuel : Nat} {t e : TypeId} {cs : List Value} {x : DataW H × List MemPlace} {f0 f1 : Field}
    (ht : P.underlying t = some (.array 59 e)) (he : P.underlying e = some (.struct #[f0, f1])) (hn0 : P.underlying f0.type = some (.int .i64)) (hn1 : P.underlying f1.type = some (.int .i64)) (o0 : f0.offset = 0) (o1 : f1.offset = 1) (hce : P.cellsOf e = 2) (hc0 : P.cellsOf f0.type = 1) (hc1 : P.cellsOf f1.type = 1) (hC : P.cellsOf t = 118)
    (h : DataW.trod enc P w base sp held fuel t cs = some x) : ∃ xs : List Int, xs.length = 118 ∧ cs = nums .i64 xs := by
  cases fuel with
  | zero => simp [DataW.trod] at h
  | succ fuel =>
    simp only [DataW.trod, ht, hce] at h
    split at h
    · rename_i hl
      rw [hC] at hl
      obtain ⟨ys, hm, hx⟩ := Option.map_eq_some_iff.1 h
      have hall : ∀ v ∈ cs, ∃ z : Int, v = .int .i64 z ∧ (Lit.int .i64 z).wf = true := by
        intro v hv
        obtain ⟨q, hq, rfl⟩ := List.mem_iff_getElem.1 hv
        have hq2 : q / 2 < 59 := by omega
        obtain ⟨b, _, hf⟩ := Go.Lib.mapM_at hm (q / 2) (q / 2) (by simp [hq2])
        obtain ⟨y0, y1, n, _, _, g0, g1⟩ := trod_struct2 he hf
        rw [o0, hc0] at g0
        rw [o1, hc1] at g1
        obtain ⟨z0, e0, _, w0⟩ := DataW.trod_int hn0 g0
        obtain ⟨z1, e1, _, w1⟩ := DataW.trod_int hn1 g1
        rcases (by omega : q = q / 2 * 2 ∨ q = q / 2 * 2 + 1) with hh | hh
        · refine ⟨z0, ?_, w0⟩
          have := congrArg (·[0]?) e0
          simp only [List.drop_zero, List.getElem?_take, List.getElem?_drop, List.getElem?_cons_zero] at this
          simp only [Nat.add_zero, ← hh] at this
          rw [List.getElem?_eq_getElem hq] at this
          simpa using this
        · refine ⟨z1, ?_, w1⟩
          have := congrArg (·[0]?) e1
          simp only [List.getElem?_take, List.getElem?_drop, List.getElem?_cons_zero] at this
          simp only [Nat.add_zero, ← hh] at this
          rw [List.getElem?_eq_getElem hq] at this
          simpa using this
      obtain ⟨xs, hxs, _⟩ := Open.vals_of cs hall
      exact ⟨xs, by rw [← nums_len, ← hxs]; omega, hxs⟩
    · cases h
/-- A list of styles that came in. -/
theorem open_styles {H : Type} {enc : TypeId × Value → H} {P : Program} {w : World} {base : Nat} {sp : Nat → Bool} {held : Bool} {fuel : Nat} {tb t e : TypeId} {a : Option Addr} {len cap : Nat} {x : DataW H × List MemPlace} {f0 f1 : Field}
    (hb : P.underlying tb = some (.slice t)) (ht : P.underlying t = some (.array 59 e)) (he : P.underlying e = some (.struct #[f0, f1])) (hn0 : P.underlying f0.type = some (.int .i64)) (hn1 : P.underlying f1.type = some (.int .i64)) (o0 : f0.offset = 0) (o1 : f1.offset = 1) (hce : P.cellsOf e = 2) (hc0 : P.cellsOf f0.type = 1) (hc1 : P.cellsOf f1.type = 1) (hC : P.cellsOf t = 118)
    (h : DataW.trod enc P w base sp held fuel tb [.slice a len cap] = some x) : ∃ b : List (List Int), len = b.length ∧ b.length ≤ cap ∧ kS.C w a b.length b ∧ ∀ y ∈ b, y.length = 118 := by
  rcases Go.Deep.open_slice hb h with h0 | ⟨ad, l, c, m, n, D, Pl, hcs, _, hl, hm, hmm, hx, hi⟩
  · have h1 := h0.1
    simp at h1
    obtain ⟨rfl, rfl, rfl⟩ := h1
    exact ⟨[], rfl, by simp, Kd.C_nil _ _, by simp⟩
  · simp at hcs
    obtain ⟨rfl, rfl, rfl⟩ := hcs
    have hlm : len ≤ m := by rw [hmm]; split <;> omega
    obtain ⟨b, hbl, hbC, hbQ⟩ := Open.C_of_each (d := kS) (w := w) (a := ad) (len := len) (Q := fun y : List Int => y.length = 118) zS (by unfold maxLen at hm; omega) (by
      intro i hil
      obtain ⟨cs', hc, ht'⟩ := hi i (by omega)
      obtain ⟨xs, h1, h2⟩ := trod_style ht he hn0 hn1 o0 o1 hce hc0 hc1 hC ht'
      rw [hC] at hc
      obtain ⟨_, hcl, hat⟩ := World.cells?_some hc
      refine ⟨xs, cs', by rw [hcl]; rfl, ⟨h1, h2⟩, h1, fun j u hu => ?_⟩
      have hj : j < 118 := by have := (List.getElem?_eq_some_iff.1 hu).1; omega
      rw [← Go.Deep.add_add]
      show w.cell? ((ad.add (i * 118)).add j) = some u
      rw [hat j hj, hu])
    subst hbl
    exact ⟨b, rfl, hl, hbC, hbQ⟩
end Go.Proofs.YtmaalgnedojfjaaDoor.PBoxesLooks
