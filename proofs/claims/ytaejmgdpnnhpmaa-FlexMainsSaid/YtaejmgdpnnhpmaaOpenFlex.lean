/- A list of flexible items that came in, read as a row: each field's cell by its own reading. -/
import Derived.Deep.Slices
import Derived.Deep.Fields
import Derived.ChangeSame
import Derived.SizedLaws
import Derived.ChangeSlices
import Derived.Test.YtaejmgdpnnhpmaaOpen
import Derived.Test.YtaejmgdpnnhpmaaQFlexx0
namespace Go.Proofs.Ytaejmgdpnnhpmaa.Open
open Go.ChangeShapes Go.WideShapes Go.Deep Go.RowKit Go.Proofs.YtaejmgdpnnhpmaaW.PrintWords Go.Proofs.Ytaejmgdpnnhpmaa.QFlex
set_option linter.unusedVariables false
section
variable {H : Type} {enc : TypeId × Value → H} {P : Program} {w : World} {base : Nat} {spare : Nat → Bool} {held : Bool}
/-- A slice of structs whose fields are one cell each: for element i and field j the cell, and the field's own reading (turned from the guide's page on structs). -/
theorem open_fields {t e : TypeId} {fs : Array Field} {fuel : Nat} {cs : List Value} {x : DataW H × List MemPlace} (ht : P.underlying t = some (.slice e)) (he : P.underlying e = some (.struct fs))
    (hone : oneCellFields P fs = true) (hC : P.cellsOf e = fs.size) (h : DataW.trod enc P w base spare held fuel t cs = some x) :
    (cs = [.slice none 0 0]) ∨
    ∃ (a : Addr) (len cap m : Nat), cs = [.slice (some a) len cap] ∧ len ≤ cap ∧ cap ≤ maxLen ∧ len ≤ m ∧ (∃ E S, x.1 = .slice E S ∧ E.length = len) ∧
      ∀ i, i < m → ∃ n : Nat, ∀ (j : Nat) (f : Field), fs[j]? = some f → ∃ (v : Value) (y : DataW H × List MemPlace), w.cell? (a.add (i * fs.size + j)) = some v ∧ DataW.trod enc P w base spare held n f.type [v] = some y := by
  rcases open_slice ht h with h0 | ⟨a, len, cap, m, n, D, Pl, hcs, hb, hl, hm, hmm, hx, hi⟩
  · exact .inl h0.1
  · refine .inr ⟨a, len, cap, m, hcs, hl, hm, by rw [hmm]; split <;> omega, ⟨_, _, by rw [hx], by simp⟩, fun i him => ?_⟩
    obtain ⟨cs', hc, ht'⟩ := hi i him
    rw [hC] at hc
    obtain ⟨ys, n', hn', hy, hlen, hyl, hf⟩ := DataW.trod_struct he ht'
    obtain ⟨_, hcl, hat⟩ := World.cells?_some hc
    refine ⟨n', fun j f hj => ?_⟩
    obtain ⟨ho, hk⟩ := hone_of hone j f hj
    have hjl : j < fs.size := (Array.getElem?_eq_some_iff.1 hj).1
    have hcell := hat j hjl
    have hv : cs'[j]? = some (cs'[j]'(by omega)) := List.getElem?_eq_getElem (by omega)
    have h1 := hf j f hj
    rw [ho, hk] at h1
    have hone' : (cs'.drop j).take 1 = [cs'[j]'(by omega)] := by
      rw [List.drop_eq_getElem_cons (by omega)]
      rfl
    rw [hone'] at h1
    have hys : ys[j]? = some (ys[j]'(by omega)) := List.getElem?_eq_getElem (by omega)
    refine ⟨_, _, ?_, h1.trans hys⟩
    rw [← Go.Deep.add_add, hcell, hv]
/-- A row out of its elements, each found by itself. -/
theorem C_of_each {α : Type} {d : Kd α} {w : World} {a : Addr} {len : Nat} {Q : α → Prop} (z : α) (hm : len ≤ 9223372036854775807)
    (h : ∀ i, i < len → ∃ x cs, cs.length = d.sz ∧ d.K w x cs ∧ Q x ∧ ∀ j u, cs[j]? = some u → w.cell? (a.add (i * d.sz + j)) = some u) : ∃ xs : List α, xs.length = len ∧ d.C w (some a) len xs ∧ ∀ x ∈ xs, Q x := by
  obtain ⟨f, hf⟩ := Classical.axiomOfChoice (r := fun (i : Nat) (x : α) => i < len → ∃ cs : List Value, cs.length = d.sz ∧ d.K w x cs ∧ Q x ∧ ∀ j u, cs[j]? = some u → w.cell? (a.add (i * d.sz + j)) = some u) (fun i => by
    by_cases hi : i < len
    · obtain ⟨x, cs, r⟩ := h i hi
      exact ⟨x, fun _ => ⟨cs, r⟩⟩
    · exact ⟨z, fun hh => absurd hh hi⟩)
  refine ⟨(List.range len).map f, by simp, ⟨by simp, hm, fun _ => ⟨a, rfl, fun j p hj => ?_⟩⟩, fun x hx => ?_⟩
  · rw [List.getElem?_map] at hj
    obtain ⟨q, hq, rfl⟩ := Option.map_eq_some_iff.1 hj
    have hq' : q < len ∧ q = j := by
      obtain ⟨hl, e⟩ := List.getElem?_eq_some_iff.1 hq
      simp at hl e
      omega
    obtain ⟨hl, rfl⟩ := hq'
    obtain ⟨cs, c1, c2, _, c4⟩ := hf q hl
    exact ⟨cs, c1, c2, c4⟩
  · obtain ⟨q, hq, rfl⟩ := List.mem_map.1 hx
    obtain ⟨cs, _, _, c3, _⟩ := hf q (by simpa using hq)
    exact c3
/-- A list of flexible items that came in: six numbers each. -/
theorem open_flex {tb e tn : TypeId} {fuel : Nat} {a : Option Addr} {len cap : Nat} {x : DataW H × List MemPlace} (ht : P.underlying tb = some (.slice e)) {fs : Array Field} (he : P.underlying e = some (.struct fs))
    (hn : P.underlying tn = some (.int .i64)) (hft : fs.toList.map (·.type) = [tn, tn, tn, tn, tn, tn])
    (hone : oneCellFields P fs = true) (hC : P.cellsOf e = fs.size) (h : DataW.trod enc P w base spare held fuel tb [.slice a len cap] = some x) :
    ∃ b : List S91, len = b.length ∧ b.length ≤ cap ∧ k91.C w a b.length b := by
  have hsz : fs.size = 6 := by have := congrArg List.length hft; simpa using this
  rcases open_fields ht he hone hC h with h0 | ⟨ad, l, c, m, hcs, hl, hm, hlm, hE, hi'⟩
  · simp at h0
    obtain ⟨rfl, rfl, rfl⟩ := h0
    exact ⟨[], rfl, by simp, Kd.C_nil _ _⟩
  · simp at hcs
    obtain ⟨rfl, rfl, rfl⟩ := hcs
    have hfj : ∀ j, j < 6 → ∃ f, fs[j]? = some f ∧ some f.type = [tn, tn, tn, tn, tn, tn][j]? := by
      intro j hj
      refine ⟨fs[j]'(by omega), by simp [hsz, hj], ?_⟩
      rw [← hft]
      simp [hsz, hj]
    obtain ⟨b, hbl, hbC, _⟩ := C_of_each (d := k91) (w := w) (a := ad) (len := len) (Q := fun _ : S91 => True) z91 (by unfold maxLen at hm; omega) (by
      intro i hil
      obtain ⟨n, hf⟩ := hi' i (by omega)
      obtain ⟨f0, g0, t0⟩ := hfj 0 (by omega)
      obtain ⟨f1, g1, t1⟩ := hfj 1 (by omega)
      obtain ⟨f2, g2, t2⟩ := hfj 2 (by omega)
      obtain ⟨f3, g3, t3⟩ := hfj 3 (by omega)
      obtain ⟨f4, g4, t4⟩ := hfj 4 (by omega)
      obtain ⟨f5, g5, t5⟩ := hfj 5 (by omega)
      obtain ⟨v0, y0, c0, r0⟩ := hf 0 f0 g0
      obtain ⟨v1, y1, c1, r1⟩ := hf 1 f1 g1
      obtain ⟨v2, y2, c2, r2⟩ := hf 2 f2 g2
      obtain ⟨v3, y3, c3, r3⟩ := hf 3 f3 g3
      obtain ⟨v4, y4, c4, r4⟩ := hf 4 f4 g4
      obtain ⟨v5, y5, c5, r5⟩ := hf 5 f5 g5
      simp at t0 t1 t2 t3 t4 t5
      rw [t0] at r0
      rw [t1] at r1
      rw [t2] at r2
      rw [t3] at r3
      rw [t4] at r4
      rw [t5] at r5
      obtain ⟨x0, q0, _, _⟩ := DataW.trod_int hn r0
      obtain ⟨x1, q1, _, _⟩ := DataW.trod_int hn r1
      obtain ⟨x2, q2, _, _⟩ := DataW.trod_int hn r2
      obtain ⟨x3, q3, _, _⟩ := DataW.trod_int hn r3
      obtain ⟨x4, q4, _, _⟩ := DataW.trod_int hn r4
      obtain ⟨x5, q5, _, _⟩ := DataW.trod_int hn r5
      simp at q0 q1 q2 q3 q4 q5
      subst q0 q1 q2 q3 q4 q5
      refine ⟨⟨x0, x1, x2, x3, x4, x5⟩, _, rfl, k91_mk w ⟨x0, x1, x2, x3, x4, x5⟩, trivial, ?_⟩
      rw [hsz] at c0 c1 c2 c3 c4 c5
      intro j u hu
      have hj : j < 6 := by have := (List.getElem?_eq_some_iff.1 hu).1; simpa using this
      rcases (by omega : j = 0 ∨ j = 1 ∨ j = 2 ∨ j = 3 ∨ j = 4 ∨ j = 5) with rfl | rfl | rfl | rfl | rfl | rfl <;> simp at hu <;> subst hu
      · exact c0
      · exact c1
      · exact c2
      · exact c3
      · exact c4
      · exact c5)
    subst hbl
    exact ⟨b, rfl, hl, hbC⟩
end
end Go.Proofs.Ytaejmgdpnnhpmaa.Open
