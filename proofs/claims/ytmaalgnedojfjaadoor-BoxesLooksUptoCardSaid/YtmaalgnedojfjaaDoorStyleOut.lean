/- boxes.Out, walked by hand: a style by value is an array of 59 values, 118 numbers. -/
import Derived.Test.YtmaalgnedojfjaaDoorPBoxesLooksx0
namespace Go.Proofs.YtmaalgnedojfjaaDoor.PBoxesLooks
open Go.RowKit Go.Proofs.YtmaalgnedojfjaaDoorW.PrintWords Go.Proofs.YtmaalgnedojfjaaDoorW.PrintLast Go.Proofs.YtmaalgnedojfjaaDoorW.PrintMore
set_option linter.unusedVariables false
set_option linter.unusedSimpArgs false
/-- A style's value. -/
def sty (xs : List Int) : Value := .agg (nums .i64 xs).toArray
theorem sty_cell (w : World) (xs : List Int) (j : Nat) (h : j < xs.length) (t : TypeId) : (w.alloc (.cells (nums .i64 xs).toArray t)).cell? ⟨w.heap.size, j, none⟩ = some (.int .i64 (xs.getD j 0)) := by
  rw [blk_cell (blk_new w _)]
  simp [nums, h]
def outOf (xs : List Int) : Int := if xs.getD 3 0 = 2 then 2 else if xs.getD 3 0 = 3 then 2 else if xs.getD 5 0 = 1 then 1 else if xs.getD 5 0 = 2 then 1 else 0
set_option maxHeartbeats 4000000 in
set_option maxRecDepth 100000 in
theorem boxes_Out.calls (xs : List Int) (hl : xs.length = 118) (w : World) : Calls Tryd.prog 16 #[sty xs] w fun e w' => e = .returned (.int .i64 (outOf xs)) ∧ Below w.heap.size w w' := by
  have HB := Aside0.mk (Below.refl w.heap.size w)
  have h3 := sty_cell w xs 3 (by omega) 35
  have h5 := sty_cell w xs 5 (by omega) 35
  unfold sty outOf
  obtain ⟨a, ha⟩ : ∃ a, (nums .i64 xs).toArray = a := ⟨_, rfl⟩
  have hsz : a.size = 118 := by rw [← ha]; simp [nums, hl]
  rw [ha] at h3 h5 ⊢
  obtain ⟨p, hp⟩ : ∃ p, xs.getD 3 0 = p := ⟨_, rfl⟩
  obtain ⟨f, hf⟩ : ∃ p, xs.getD 5 0 = p := ⟨_, rfl⟩
  rw [hp] at h3 ⊢
  rw [hf] at h5 ⊢
  clear ha hp hf hl
  by_cases c : p = 2
  · subst c
    go_enter Tryd.func16, Tryd.ntmps16
    go_wp2
    go_ret
    exact ⟨rfl, by repeat (first | exact HB.out | apply below_alloc)⟩
  · rw [if_neg c]
    have cp2 : (p == 2) = false := beq_eq_false_iff_ne.mpr c
    clear c
    by_cases c : p = 3
    · subst c
      go_enter Tryd.func16, Tryd.ntmps16
      go_wp2
      go_ret
      exact ⟨rfl, by repeat (first | exact HB.out | apply below_alloc)⟩
    · rw [if_neg c]
      have cp3 : (p == 3) = false := beq_eq_false_iff_ne.mpr c
      clear c
      by_cases c : f = 1
      · subst c
        go_enter Tryd.func16, Tryd.ntmps16
        go_wp2
        go_ret
        exact ⟨rfl, by repeat (first | exact HB.out | apply below_alloc)⟩
      · rw [if_neg c]
        have cf1 : (f == 1) = false := beq_eq_false_iff_ne.mpr c
        clear c
        by_cases c : f = 2
        · subst c
          go_enter Tryd.func16, Tryd.ntmps16
          go_wp2
          go_ret
          exact ⟨rfl, by repeat (first | exact HB.out | apply below_alloc)⟩
        · rw [if_neg c]
          have cf2 : (f == 2) = false := beq_eq_false_iff_ne.mpr c
          clear c
          go_enter Tryd.func16, Tryd.ntmps16
          go_wp2
          go_ret
          exact ⟨rfl, by repeat (first | exact HB.out | apply below_alloc)⟩
end Go.Proofs.YtmaalgnedojfjaaDoor.PBoxesLooks
