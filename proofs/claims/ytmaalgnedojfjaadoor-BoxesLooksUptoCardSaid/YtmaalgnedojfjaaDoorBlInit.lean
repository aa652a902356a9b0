/- style.Initial, walked by hand: what the variable of initial values holds. -/
import Derived.Test.YtmaalgnedojfjaaDoorBlStyle
import Derived.Test.YtmaalgnedojfjaaDoorGivBoxed
namespace Go.Proofs.YtmaalgnedojfjaaDoor.PBoxesLooks
open Go.RowKit Go.Proofs.YtmaalgnedojfjaaDoorW.PrintWords Go.Proofs.YtmaalgnedojfjaaDoorW.PrintLast Go.Proofs.YtmaalgnedojfjaaDoorW.PrintMore
set_option linter.unusedVariables false
set_option linter.unusedSimpArgs false
/-- The variable holds these numbers. -/
def IniIs (w : World) (ini : List Int) : Prop := ∀ j, j < 118 → w.cell? ⟨0, j, none⟩ = some (.int .i64 (ini.getD j 0))
theorem cellB {w w' : World} {p : Addr} {v : Value} (h : w.cell? p = some v) (hb : Below w.heap.size w w') : w'.cell? p = some v := by
  rw [hb.cell (block_lt_of_cell h)]
  exact h
theorem IniIs.below {w w' : World} {ini : List Int} (h : IniIs w ini) (hb : Below w.heap.size w w') : IniIs w' ini := fun j hj => cellB (h j hj) hb
set_option maxHeartbeats 8000000 in
set_option maxRecDepth 100000 in
theorem style_Initial.calls (ini : List Int) (p : Nat) (hp : p < 59) (w : World) (hI : IniIs w ini) :
    Calls Tryd.prog 7 #[.int .i64 p] w fun e w' => e = .returned (.agg #[.int .i64 (ini.getD (p * 2) 0), .int .i64 (ini.getD (p * 2 + 1) 0)]) ∧ Below w.heap.size w w' := by
  have HB := Aside0.mk (Below.refl w.heap.size w)
  have e1 : decide ((p : Int) < 0) = false := decide_eq_false (by omega)
  have e2 : decide (59 ≤ (p : Int)) = false := decide_eq_false (by omega)
  have hJ := hI.below (below_alloc (Below.refl _ _) (Obj.cells #[.int .i64 0, .int .i64 0] 32 (0, 0)))
  have c0 := hJ (p * 2) (by omega)
  have c1 := hJ (p * 2 + 1) (by omega)
  generalize ini.getD (p * 2) 0 = a at c0 ⊢
  generalize ini.getD (p * 2 + 1) 0 = b at c1 ⊢
  clear hI hJ
  go_enter Tryd.func7, Tryd.ntmps7
  go_wp2
  refine bodyPost_ret (results_cell_row rfl _ _ w.heap.size 32 #[.int .i64 a, .int .i64 b] (0, 0) _ rfl (blk_new w _) Tryd.underlying32 rfl (by kernel_rfl)) rfl ⟨rfl, below_alloc (Below.refl _ _) _⟩
end Go.Proofs.YtmaalgnedojfjaaDoor.PBoxesLooks
