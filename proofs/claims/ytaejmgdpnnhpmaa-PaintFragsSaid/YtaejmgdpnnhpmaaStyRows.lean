/- Rows stored whole, and what a bound of a style is. -/
import Derived.Deep.MidRow
import Derived.Test.YtaejmgdpnnhpmaaStyREdges
namespace Go.Proofs.Ytaejmgdpnnhpmaa.QSty
open Go.RowKit Go.Proofs.YtaejmgdpnnhpmaaW.PrintWords Go.Proofs.YtaejmgdpnnhpmaaW.PrintLast Go.Proofs.YtaejmgdpnnhpmaaW.PrintMore
set_option linter.unusedVariables false
set_option linter.unusedSimpArgs false
theorem sets_far {g b : Nat} (hne : b ≠ g) : ∀ (vs : List Value) (o : Nat) (w : World), (w.setCells g o vs).heap[b]? = w.heap[b]?
  | [], _, _ => rfl
  | v :: r, o, w => (sets_far hne r (o + 1) _).trans (Below.heap_setCell w ⟨g, o, none⟩ v b hne)
theorem sets_below {base g : Nat} {w : World} (hg : base ≤ g) : ∀ (vs : List Value) (o : Nat) (W : World), Below base w W → Below base w (W.setCells g o vs)
  | [], _, _, h => h
  | v :: r, o, W, h => sets_below hg r (o + 1) _ (h.setCell hg v)
theorem sets_put {g : Nat} {t : TypeId} : ∀ (vs pre : List Value) (cs : List Value) (w : World), w.heap[g]? = some (.cells (pre ++ cs).toArray t (0, 0)) → cs.length = vs.length →
    (w.setCells g pre.length vs).heap[g]? = some (.cells (pre ++ vs).toArray t (0, 0))
  | [], pre, cs, w, h, hl => by
    obtain rfl : cs = [] := List.eq_nil_of_length_eq_zero hl
    exact h
  | v :: r, pre, c :: cs, w, h, hl => by
    have h1 : (w.setCell ⟨g, pre.length, none⟩ v).heap[g]? = some (.cells ((pre ++ [v]) ++ cs).toArray t (0, 0)) := blk_put h pre.length v (by simp)
    have h2 := sets_put r (pre ++ [v]) cs _ h1 (by simpa using hl)
    simpa [World.setCells] using h2
  | _ :: _, _, [], _, _, hl => by simp at hl
theorem sets_row {g : Nat} {t : TypeId} {cs vs : Array Value} {w : World} (h : w.heap[g]? = some (.cells cs t (0, 0))) (hl : cs.size = vs.size) : (w.setCells g 0 vs.toList).heap[g]? = some (.cells vs t (0, 0)) := by
  have := sets_put vs.toList [] cs.toList w (by simpa using h) (by simpa using hl)
  simpa using this
theorem there_row {g : Nat} {t : TypeId} {cs : Array Value} {w : World} (h : w.heap[g]? = some (.cells cs t (0, 0))) (n : Nat) (hn : n ≤ cs.size) : w.there g 0 n := by
  intro j hj
  constructor
  · rw [blk_cell h]
    simp
    omega
  · exact blk_frozen h _
/-- A bound of widths: a style, a room, a rim, percentages count, three properties. -/
def bnd (xs : List Int) (room rim : Int) : Array Value := (nums .i64 xs ++ ([.int .i64 room, .int .i64 rim, .bool true, .int .i64 5, .int .i64 7, .int .i64 9] : List Value)).toArray
theorem bnd_size {xs : List Int} (hl : xs.length = 118) (room rim : Int) : (bnd xs room rim).size = 124 := by simp [bnd, nums, hl]
theorem bnd_at {xs : List Int} (hl : xs.length = 118) (room rim : Int) (j : Nat) (hj : j < 118) : (bnd xs room rim)[j]? = some (.int .i64 (xs.getD j 0)) := by
  unfold bnd
  rw [List.getElem?_toArray, List.getElem?_append_left (by simp [nums, hl, hj])]
  simp [nums, hl, hj]
theorem bnd_end {xs : List Int} (hl : xs.length = 118) (room rim : Int) (j : Nat) : (bnd xs room rim)[118 + j]? = ([.int .i64 room, .int .i64 rim, .bool true, .int .i64 5, .int .i64 7, .int .i64 9] : List Value)[j]? := by
  unfold bnd
  rw [List.getElem?_toArray, List.getElem?_append_right (by simp [nums, hl])]
  simp [nums, hl]
/-- A bound's length of a property, and whether it is told. -/
def bof (xs : List Int) (room rim p : Int) : Int × Bool :=
  if (ofv (xs.getD (p.toNat * 2) 0) (xs.getD (p.toNat * 2 + 1) 0) room).2 = false then (0, false)
  else (mx 0 (if xs.getD 9 0 = 1 then wrap64 ((ofv (xs.getD (p.toNat * 2) 0) (xs.getD (p.toNat * 2 + 1) 0) room).1 - rim) else (ofv (xs.getD (p.toNat * 2) 0) (xs.getD (p.toNat * 2 + 1) 0) room).1), true)
end Go.Proofs.Ytaejmgdpnnhpmaa.QSty
