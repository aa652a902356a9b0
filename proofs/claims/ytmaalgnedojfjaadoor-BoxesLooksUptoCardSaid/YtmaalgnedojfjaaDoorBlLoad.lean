/- Whole styles out of memory, and pairs of numbers into a style's block. -/
import Derived.Test.YtmaalgnedojfjaaDoorBlInit
import Derived.Deep.MidRow
namespace Go.Proofs.YtmaalgnedojfjaaDoor.PBoxesLooks
open Go.RowKit Go.Proofs.YtmaalgnedojfjaaDoorW.PrintWords Go.Proofs.YtmaalgnedojfjaaDoorW.PrintLast Go.Proofs.YtmaalgnedojfjaaDoorW.PrintMore
set_option linter.unusedVariables false
set_option linter.unusedSimpArgs false
theorem load_whole {P : Program} {oi : Oper} {a : Act} {w : World} (ty : TypeId) (x : Operand) (p : Addr) (cs : List Value) (n : Nat) (e : TypeId) (ho : oi.op = .load ty x) (hx : a.eval x = .pointer (some p))
    (hc : ∀ j v, cs[j]? = some v → w.cell? (p.add j) = some v) (hu : P.underlying ty = some (.array n e)) (hi : (P.info? ty).map (·.size) = some cs.length) : (execOp a.eval oi).run P w = .ok (.value (.agg cs.toArray)) w := by
  have hl : (loadCells p cs.length).run P w = .ok cs.toArray w := run_loadCells_list (P := P) w p cs hc
  have hv : (loadVar ty p).run P w = .ok (.agg cs.toArray) w := by
    cases hq : P.info? ty with
    | none => simp [hq] at hi
    | some i =>
      have hs : i.size = cs.length := by simpa [hq] using hi
      have hagg : (isAgg ty).run P w = .ok true w := by
        unfold isAgg
        rw [Sem.run_bind, run_underlying hu w]
        simp
      have hsz : (sizeOf ty).run P w = .ok cs.length w := by simp [sizeOf, typeInfo, hq, hs]
      unfold loadVar
      simp [hagg, hsz, hl, Result.andThen]
  unfold execOp
  simp only [ho, hx, Instr.loadAt, Instr.sureAddr, Sem.run_bind, Sem.run_pure, Result.andThen_ok, hv]
theorem sets_far {g b : Nat} (hne : b ≠ g) : ∀ (vs : List Value) (o : Nat) (w : World), (w.setCells g o vs).heap[b]? = w.heap[b]?
  | [], _, _ => rfl
  | v :: r, o, w => (sets_far hne r (o + 1) _).trans (Below.heap_setCell w ⟨g, o, none⟩ v b hne)
theorem sets_below {base g : Nat} {w : World} (hg : base ≤ g) : ∀ (vs : List Value) (o : Nat) (W : World), Below base w W → Below base w (W.setCells g o vs)
  | [], _, _, h => h
  | v :: r, o, W, h => sets_below hg r (o + 1) _ (h.setCell hg v)
theorem sets_put {g : Nat} {t : TypeId} : ∀ (vs pre : List Value) (cs : List Value) (w : World), w.heap[g]? = some (.cells (pre ++ cs).toArray t (0, 0)) → cs.length = vs.length →
    (w.setCells g pre.length vs).heap[g]? = some (.cells (pre ++ vs).toArray t (0, 0))
  | [], pre, cs, w, h, hl => by
    obtain rfl : cs = [] := List.eq_nil_of_length_eq_zero hl
    exact h
  | v :: r, pre, c :: cs, w, h, hl => by
    have h1 : (w.setCell ⟨g, pre.length, none⟩ v).heap[g]? = some (.cells ((pre ++ [v]) ++ cs).toArray t (0, 0)) := blk_put h pre.length v (by simp)
    have h2 := sets_put r (pre ++ [v]) cs _ h1 (by simpa using hl)
    simpa [World.setCells] using h2
  | _ :: _, _, [], _, _, hl => by simp at hl
theorem sets_row {g : Nat} {t : TypeId} {cs vs : Array Value} {w : World} (h : w.heap[g]? = some (.cells cs t (0, 0))) (hl : cs.size = vs.size) : (w.setCells g 0 vs.toList).heap[g]? = some (.cells vs t (0, 0)) := by
  have := sets_put vs.toList [] cs.toList w (by simpa using h) (by simpa using hl)
  simpa using this
theorem there_row {g : Nat} {t : TypeId} {cs : Array Value} {w : World} (h : w.heap[g]? = some (.cells cs t (0, 0))) (n : Nat) (hn : n ≤ cs.size) : w.there g 0 n := by
  intro j hj
  constructor
  · rw [blk_cell h]
    simp
    omega
  · exact blk_frozen h _
theorem there_blk {w : World} {g t q n : Nat} {cs : Array Value} (hb : w.heap[g]? = some (.cells cs t (0, 0))) (h : q + n ≤ cs.size) : w.there g q n := by
  intro j hj
  refine ⟨?_, blk_frozen hb _⟩
  rw [blk_cell hb, Array.getElem?_eq_getElem (show q + j < cs.size by omega)]
  rfl
theorem store_run_at {P : Program} {oi : Oper} {a : Act} {w : World} (ty : TypeId) (x y : Operand) (g q : Nat) (cells : Array Value) (ho : oi.op = .store ty x y) (hx : a.eval x = .pointer (some ⟨g, q, none⟩)) (hy : a.eval y = .agg cells)
    (ht : w.there g q cells.size) (hi : (P.info? ty).map (·.size) = some cells.size) (h1 : cells.all (·.oneCell') = true) : (execOp a.eval oi).run P w = .ok .skip (w.setCells g q cells.toList) := by
  unfold execOp
  simp only [ho, hx, hy, Instr.storeAt, Instr.sureAddr, Sem.run_bind, Sem.run_pure, Result.andThen_ok, run_storeVar_mid w g q ty cells ht hi h1]
theorem nums_set (s : List Int) (i : Nat) (v : Int) : (nums .i64 s).toArray.setIfInBounds i (.int .i64 v) = (nums .i64 (s.set i v)).toArray := by
  simp [nums, List.map_set]
theorem info35 : (Tryd.prog.info? 35).map (fun i => (i.zero, i.size, i.bytes)) = some (some (.agg (nums .i64 zS).toArray), 118, 944) := by kernel_rfl
theorem size35 : (Tryd.prog.info? 35).map (·.size) = some 118 := by kernel_rfl
/-! What Looks computes. -/
def inh (p : Nat) : Bool := (style_Inherits.f p).getD false
theorem inh_f (p : Nat) : style_Inherits.f p = some (inh p) := by
  unfold inh style_Inherits.f
  repeat' split
  all_goals rfl
def pick2 (ini par s : List Int) (p : Nat) : List Int :=
  if inh p then (s.set (p * 2) (par.getD (p * 2) 0)).set (p * 2 + 1) (par.getD (p * 2 + 1) 0) else (s.set (p * 2) (ini.getD (p * 2) 0)).set (p * 2 + 1) (ini.getD (p * 2 + 1) 0)
def mk1 (ini par : List Int) : Nat → List Int
  | 0 => zS
  | k + 1 => pick2 ini par (mk1 ini par k) k
theorem mk1_length (ini par : List Int) (k : Nat) : (mk1 ini par k).length = 118 := by
  induction k with
  | zero => rfl
  | succ k ih => unfold mk1 pick2; split <;> simp [ih]
def bad (m k : Nat) (x : S29) : Bool := decide (x.f1 < -1) || decide ((m : Int) ≤ x.f1) || (((k : Int) == 0) != (x.f2 == -1)) || decide (x.f2 < -1) || decide ((k : Int) ≤ x.f2) || (((k : Int) == 0) && decide (x.f1 < 0))
def lookOf (ini : List Int) (L O : List (List Int)) (x : S29) : List Int := if 0 ≤ x.f1 then L.getD x.f1.toNat zS else mk1 ini (O.getD x.f2.toNat zS) 59
def looked (ini : List Int) (L : List (List Int)) (B : List S29) : Nat → List (List Int)
  | 0 => []
  | k + 1 => looked ini L B k ++ [lookOf ini L (looked ini L B k) (rd_T29 B (k : Int))]
theorem looked_length (ini : List Int) (L : List (List Int)) (B : List S29) (k : Nat) : (looked ini L B k).length = k := by
  induction k with
  | zero => rfl
  | succ k ih => unfold looked; simp [ih]
end Go.Proofs.YtmaalgnedojfjaaDoor.PBoxesLooks
