/- A slice of one style, built. -/
import Derived.Test.YtmaalgnedojfjaaDoorBlLoad
namespace Go.Proofs.YtmaalgnedojfjaaDoor.PBoxesLooks
open Go.RowKit Go.Proofs.YtmaalgnedojfjaaDoorW.PrintWords Go.Proofs.YtmaalgnedojfjaaDoorW.PrintLast Go.Proofs.YtmaalgnedojfjaaDoorW.PrintMore
set_option linter.unusedVariables false
set_option linter.unusedSimpArgs false
theorem fold_fill : ∀ (l : List Value) (k : Nat) (Z : List Value), Z.length = k + l.length → (l.zipIdx k).foldl (fun (cs : Array Value) (x : Value × Nat) => cs.setIfInBounds x.2 x.1) Z.toArray = (Z.take k ++ l).toArray
  | [], k, Z, h => by simp [List.take_of_length_le (show Z.length ≤ k by simp at h; omega)]
  | v :: r, k, Z, h => by
    have h2 : (Z.set k v).length = (k + 1) + r.length := by simp at h ⊢; omega
    have ih := fold_fill r (k + 1) (Z.set k v) h2
    rw [List.zipIdx_cons, List.foldl_cons]
    simp only [List.setIfInBounds_toArray]
    rw [ih]
    congr 1
    have hk : k < Z.length := by simp at h; omega
    rw [List.take_succ_eq_append_getElem (by rw [List.length_set]; exact hk), List.take_set_of_le (Nat.le_refl k), List.getElem_set_self, List.append_assoc]
    rfl
theorem fill_whole (cells Z : Array Value) (hz : Z.size = cells.size) : Instr.fill (fun i => some (i * cells.size, cells.size)) Z [(0, .agg cells)] = some cells := by
  have h := fold_fill cells.toList 0 Z.toList (by simp [hz])
  simp only [List.take_zero, List.nil_append, Array.toArray_toList] at h
  have h2 : cells.zipIdx.foldl (fun (cs : Array Value) (x : Value × Nat) => cs.setIfInBounds x.2 x.1) Z = cells := by
    rw [← Array.foldl_toList, Array.toList_zipIdx]
    exact h
  simp only [Instr.fill, Value.cells, Nat.zero_mul, Nat.zero_add, hz]
  simp at h2 ⊢
  exact h2
theorem build_one {oi : Oper} {a : Act} {w : World} (x : Operand) (cells : Array Value) (ho : oi.op = .buildSlice 23 1 #[(0, x)]) (hx : a.eval x = .agg cells) (hs : cells.size = 118) :
    (execOp a.eval oi).run Tryd.prog w = .ok (.value (.slice (some ⟨w.heap.size, 0, none⟩) 1 1)) (w.alloc (.cells cells 35 (0, 0))) := by
  have hsz : (sizeOf 35).run Tryd.prog w = .ok 118 w := by
    have h := size35
    cases hq : Tryd.prog.info? 35 with
    | none => simp [hq] at h
    | some i =>
      have h1 : i.size = 118 := by simpa [hq] using h
      simp [sizeOf, typeInfo, hq, h1]
  obtain ⟨z, hz0⟩ : ∃ z : Array Value, (zeroValue 35).run Tryd.prog w = .ok (.agg z) w := ⟨_, zero35 w⟩
  have hf : Instr.fill (fun i => some (i * 118, 118)) ((Array.range (1 * 118)).map (z[· % z.size]!)) [(0, .agg cells)] = some cells := by
    have h := fill_whole cells ((Array.range (1 * 118)).map (z[· % z.size]!)) (by simp [hs])
    rw [hs] at h
    exact h
  have hb : (Instr.buildSlice 23 1 #[(0, .agg cells)]).run Tryd.prog w = .ok (.slice (some ⟨w.heap.size, 0, none⟩) 1 1) (w.alloc (.cells cells 35 (0, 0))) := by
    unfold Instr.buildSlice
    rw [Sem.run_bind, run_underlying Tryd.underlying23 w]
    simp only [Result.andThen]
    rw [Sem.run_bind, hsz]
    simp only [Result.andThen]
    rw [if_neg (by decide), if_neg (by decide), Sem.run_bind, hz0]
    simp only [Result.andThen]
    rw [Sem.run_bind, Sem.run_pure]
    simp only [Result.andThen, Value.cells]
    rw [hf]
    rfl
  unfold execOp
  simp only [ho]
  have e : (Array.map (fun y : Nat × Operand => (y.fst, a.eval y.snd)) #[(0, x)]) = #[(0, .agg cells)] := by simp [hx]
  rw [e, Sem.run_bind, hb]
  rfl
end Go.Proofs.YtmaalgnedojfjaaDoor.PBoxesLooks
