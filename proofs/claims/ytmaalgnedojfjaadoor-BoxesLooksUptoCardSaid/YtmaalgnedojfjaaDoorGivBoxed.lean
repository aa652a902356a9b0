/- The closed fact 'boxed', walked by hand. -/
import Derived.Test.YtmaalgnedojfjaaDoorPBoxesLooksx1
import Derived.Test.YtmaalgnedojfjaaDoorStyleOut
namespace Go.Proofs.YtmaalgnedojfjaaDoor.PBoxesLooks
open Go.RowKit Go.Proofs.YtmaalgnedojfjaaDoorW.PrintWords Go.Proofs.YtmaalgnedojfjaaDoorW.PrintLast Go.Proofs.YtmaalgnedojfjaaDoorW.PrintMore
set_option linter.unusedVariables false
set_option linter.unusedSimpArgs false
/-- A block whose cells are elements, read as a row. -/
theorem C_of_block {α : Type} (d : Kd α) {w : World} {g t : Nat} {cs : List Value} (xs : List α) (hb : w.heap[g]? = some (.cells cs.toArray t (0, 0))) (hr : Reps (d.K w) d.sz xs cs) (hm : xs.length ≤ 9223372036854775807) : d.C w (some ⟨g, 0, none⟩) xs.length xs := by
  refine ⟨rfl, hm, fun _ => ⟨⟨g, 0, none⟩, rfl, fun j p hj => ?_⟩⟩
  have hp := hr.2 j p hj
  refine ⟨_, d.K_len hp, hp, fun i u hu => ?_⟩
  rw [add_plain, blk_cell hb]
  rw [List.getElem?_take] at hu
  split at hu
  · rw [List.getElem?_drop] at hu
    simpa using hu
  · cases hu
theorem reps_one {α : Type} {d : Kd α} {w : World} {x : α} {cs : List Value} (h : d.K w x cs) : Reps (d.K w) d.sz [x] cs := by
  simpa using Reps.snoc (Reps.none (d.K w) d.sz) h (d.K_len h)
theorem zero35 (w : World) : Sem.run Tryd.prog (zeroValue 35) w = .ok (.agg #[.int .i64 0, .int .i64 0, .int .i64 0, .int .i64 0, .int .i64 0, .int .i64 0, .int .i64 0, .int .i64 0, .int .i64 0, .int .i64 0, .int .i64 0, .int .i64 0, .int .i64 0, .int .i64 0, .int .i64 0, .int .i64 0, .int .i64 0, .int .i64 0, .int .i64 0, .int .i64 0, .int .i64 0, .int .i64 0, .int .i64 0, .int .i64 0, .int .i64 0, .int .i64 0, .int .i64 0, .int .i64 0, .int .i64 0, .int .i64 0, .int .i64 0, .int .i64 0, .int .i64 0, .int .i64 0, .int .i64 0, .int .i64 0, .int .i64 0, .int .i64 0, .int .i64 0, .int .i64 0, .int .i64 0, .int .i64 0, .int .i64 0, .int .i64 0, .int .i64 0, .int .i64 0, .int .i64 0, .int .i64 0, .int .i64 0, .int .i64 0, .int .i64 0, .int .i64 0, .int .i64 0, .int .i64 0, .int .i64 0, .int .i64 0, .int .i64 0, .int .i64 0, .int .i64 0, .int .i64 0, .int .i64 0, .int .i64 0, .int .i64 0, .int .i64 0, .int .i64 0, .int .i64 0, .int .i64 0, .int .i64 0, .int .i64 0, .int .i64 0, .int .i64 0, .int .i64 0, .int .i64 0, .int .i64 0, .int .i64 0, .int .i64 0, .int .i64 0, .int .i64 0, .int .i64 0, .int .i64 0, .int .i64 0, .int .i64 0, .int .i64 0, .int .i64 0, .int .i64 0, .int .i64 0, .int .i64 0, .int .i64 0, .int .i64 0, .int .i64 0, .int .i64 0, .int .i64 0, .int .i64 0, .int .i64 0, .int .i64 0, .int .i64 0, .int .i64 0, .int .i64 0, .int .i64 0, .int .i64 0, .int .i64 0, .int .i64 0, .int .i64 0, .int .i64 0, .int .i64 0, .int .i64 0, .int .i64 0, .int .i64 0, .int .i64 0, .int .i64 0, .int .i64 0, .int .i64 0, .int .i64 0, .int .i64 0, .int .i64 0, .int .i64 0, .int .i64 0, .int .i64 0]) w := by kernel_rfl
attribute [local go_sem] zero35
def clerestorylaw3_boxed.f : Option (Bool) := some true
def box0 : S29 := ⟨4, 0, -1, [0], ⟨#[]⟩⟩
theorem check0 : boxes_Check.f 9 [box0] = some 3 := by decide +kernel
def style0 : List Int := List.replicate 4 0 ++ [1, 1] ++ List.replicate 112 0
set_option maxHeartbeats 4000000 in
set_option maxRecDepth 100000 in
theorem clerestorylaw3_boxed.calls (r : Bool) (w : World) (h : clerestorylaw3_boxed.f = some r) :
    Calls Tryd.prog 6 #[] w fun e w' => e = .returned (.bool r) ∧ Below w.heap.size w w' := by
  obtain rfl := Option.some.inj h
  have HB := Aside0.mk (Below.refl w.heap.size w)
  have HO : Aside0 (∀ w, Calls Tryd.prog 16 #[sty style0] w fun e w' => e = .returned (.int .i64 1) ∧ Below w.heap.size w w') := ⟨fun w => boxes_Out.calls style0 (by decide) w⟩
  have HK : Aside0 (∀ A B, A = Obj.cells #[.int .i64 0] 3 (0, 0) → B = Obj.cells #[.int .i64 4, .int .i64 0, .int .i64 (-1), .slice (some ⟨w.heap.size, 0, none⟩) 1 1, .string ⟨#[]⟩] 29 (0, 0) →
      Calls Tryd.prog 15 #[.slice (some ⟨w.heap.size + 1, 0, none⟩) 1 1] ((w.alloc A).alloc B) fun e w' => e = .returned (.int .i64 3) ∧ Below w.heap.size w w') := ⟨by
    rintro A B rfl rfl
    have e : (w.alloc (Obj.cells #[.int .i64 0] 3 (0, 0))).heap.size = w.heap.size + 1 := by simp
    have h1 := blk_alloc (blk_new w (Obj.cells #[.int .i64 0] 3 (0, 0))) (Obj.cells #[.int .i64 4, .int .i64 0, .int .i64 (-1), .slice (some ⟨w.heap.size, 0, none⟩) 1 1, .string ⟨#[]⟩] 29 (0, 0))
    have h2 := blk_new (w.alloc (Obj.cells #[.int .i64 0] 3 (0, 0))) (Obj.cells #[.int .i64 4, .int .i64 0, .int .i64 (-1), .slice (some ⟨w.heap.size, 0, none⟩) 1 1, .string ⟨#[]⟩] 29 (0, 0))
    rw [e] at h2
    have hk : Kd.C (Kd.int .i64) ((w.alloc (Obj.cells #[.int .i64 0] 3 (0, 0))).alloc (Obj.cells #[.int .i64 4, .int .i64 0, .int .i64 (-1), .slice (some ⟨w.heap.size, 0, none⟩) 1 1, .string ⟨#[]⟩] 29 (0, 0))) (some ⟨w.heap.size, 0, none⟩) [(0 : Int)].length [0] :=
      C_of_block (Kd.int .i64) (cs := [.int .i64 0]) [0] h1 (Reps.one rfl (Reps.none _ _)) (by decide)
    have hc : Kd.C k29 ((w.alloc (Obj.cells #[.int .i64 0] 3 (0, 0))).alloc (Obj.cells #[.int .i64 4, .int .i64 0, .int .i64 (-1), .slice (some ⟨w.heap.size, 0, none⟩) 1 1, .string ⟨#[]⟩] 29 (0, 0))) (some ⟨w.heap.size + 1, 0, none⟩) [box0].length [box0] :=
      C_of_block k29 (cs := [.int .i64 4, .int .i64 0, .int .i64 (-1), .slice (some ⟨w.heap.size, 0, none⟩) 1 1, .string ⟨#[]⟩]) [box0] h2 (reps_one (k29_mk _ box0 (c3 := 1) (by decide) hk)) (by decide)
    refine (boxes_Check.calls 9 (some ⟨w.heap.size + 1, 0, none⟩) 1 [box0] 3 _ hc (by decide) check0).mono ?_
    rintro e w' ⟨rfl, hb⟩
    exact ⟨rfl, below_step (below_alloc (below_alloc (Below.refl _ _) _) _) hb⟩⟩
  go_enter Tryd.func6, Tryd.ntmps6
  go_wp2_with (first
    | (go_at_call 15; (with_reducible refine (HK.out _ _ rfl rfl).mono ?_); rintro e w1 ⟨rfl, hb⟩; have HB1 := Aside0.mk hb; clear hb)
    | (go_at_call 16; refine (HO.out _).mono ?_; rintro e w2 ⟨rfl, hb⟩; have HB2 := Aside0.mk (below_step HB1.out hb); clear hb))
  go_ret
  exact ⟨rfl, HB2.out⟩
end Go.Proofs.YtmaalgnedojfjaaDoor.PBoxesLooks
