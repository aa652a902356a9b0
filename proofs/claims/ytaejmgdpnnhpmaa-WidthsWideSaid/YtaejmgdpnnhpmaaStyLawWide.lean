/- The closed fact wide and the law WidthsWide, walked by hand. -/
import Derived.Test.YtaejmgdpnnhpmaaStyRefWide
namespace Go.Proofs.Ytaejmgdpnnhpmaa.QSty
open Go.RowKit Go.Proofs.YtaejmgdpnnhpmaaW.PrintWords Go.Proofs.YtaejmgdpnnhpmaaW.PrintLast Go.Proofs.YtaejmgdpnnhpmaaW.PrintMore
set_option linter.unusedVariables false
set_option linter.unusedSimpArgs false
def wxs : List Int := (((List.replicate 118 (0 : Int)).set 10 2).set 11 40 |>.set 24 6).set 28 6
set_option maxHeartbeats 8000000 in
set_option maxRecDepth 100000 in
theorem wide_eq : wideof wxs (cut 100) = .tuple #[.int .i64 30, .int .i64 40, .int .i64 30] := by kernel_rfl
set_option maxHeartbeats 8000000 in
set_option maxRecDepth 100000 in
theorem wide_yes (w : World) : Calls Try.prog 20 #[] w fun e w' => e = .returned (.bool true) ∧ Below w.heap.size w w' := by
  have C := fun w => widths_Wide.calls wxs 100 (by rfl) w
  rw [wide_eq] at C
  obtain ⟨sv, hsv⟩ : ∃ v, sty wxs = v := ⟨_, rfl⟩
  have HV := Aside0.mk hsv
  rw [hsv] at C
  have K := Aside0.mk C
  clear C hsv
  go_enter Try.func20, Try.ntmps20
  go_wp2_with (first
    | ((with_reducible refine gate_dst (N := 8) rfl ?_); (refine Kd.event_run rfl (v := sv) (w1 := w) ?hr ?_; (case hr => rw [← HV.out]; kernel_rfl)))
    | (go_at_call 18; (with_reducible refine (K.out _).mono ?_); rintro e w2 ⟨rfl, hb⟩; have HB2 := Aside0.mk hb; clear hb))
  go_ret
  exact ⟨rfl, HB2.out⟩
set_option maxHeartbeats 8000000 in
set_option maxRecDepth 100000 in
theorem WidthsWide.walk (xs : List Int) (room : Int) (w : World) (hl : xs.length = 118) (_ : ∀ n ∈ xs, (Lit.int .i64 n).wf = true) (_ : (Lit.int .i64 room).wf = true) :
    Calls Try.prog 4 #[.agg (nums .i64 xs).toArray, .int .i64 room] w fun e w' => e = .returned (.bool true) ∧ Below w.heap.size w w' := by
  have C1 := fun w => widths_Wide.calls xs room hl w
  have C2 := fun w => ref_Wide.calls xs room hl w
  obtain ⟨x, y, z, hx⟩ : ∃ x y z, wideof xs (cut room) = .tuple #[.int .i64 x, .int .i64 y, .int .i64 z] := ⟨_, _, _, rfl⟩
  rw [hx] at C1 C2
  unfold sty at *
  obtain ⟨a, ha⟩ : ∃ a, (nums .i64 xs).toArray = a := ⟨_, rfl⟩
  have hsz : a.size = 118 := by rw [← ha]; simp [nums, hl]
  rw [ha] at C1 C2 ⊢
  have K1 := Aside0.mk C1
  have K2 := Aside0.mk C2
  clear C1 C2 ha hl hx
  have bx : (x == x) = true := beq_self_eq_true x
  have by_ : (y == y) = true := beq_self_eq_true y
  have bz : (z == z) = true := beq_self_eq_true z
  have HB := Aside0.mk (Below.refl w.heap.size w)
  go_enter Try.func4, Try.ntmps4
  go_wp2_with (first
    | ((with_reducible refine gate_dst (N := 2) rfl ?_); refine box_event rfl (N := 2) rfl (cs := a) (t := 25) (by first | (go_simp; done) | (go_simp; rfl)) ?_; intro gs hg_ w1 hbx hb; have KS1 := Aside0.mk hbx; have HB1 := Aside0.mk (below_step HB.out hb); clear hg_ hbx hb)
    | ((with_reducible refine gate_dst (N := 12) rfl ?_); refine wpList_load_row rfl 25 _ rfl gs rfl 25 _ (0, 0) _ KS1.out Try.underlying25 rfl (by rw [hsz]; kernel_rfl) ?_)
    | (go_at_call 18; (with_reducible refine (K1.out _).mono ?_); rintro e w2 ⟨rfl, hb⟩; have KS2 := Aside0.mk (blk_below KS1.out hb); have HB2 := Aside0.mk (below_step HB1.out hb); clear hb)
    | ((with_reducible refine gate_dst (N := 19) rfl ?_); refine wpList_load_row rfl 25 _ rfl gs rfl 25 _ (0, 0) _ KS2.out Try.underlying25 rfl (by rw [hsz]; kernel_rfl) ?_)
    | (go_at_call 19; (with_reducible refine (K2.out _).mono ?_); rintro e w3 ⟨rfl, hb⟩; have HB3 := Aside0.mk (below_step HB2.out hb); clear hb)
    | (go_at_call 20; (with_reducible refine (wide_yes _).mono ?_); rintro e w4 ⟨rfl, hb⟩; have HB4 := Aside0.mk (below_step HB3.out hb); clear hb))
  go_ret
  exact ⟨rfl, HB4.out⟩
end Go.Proofs.Ytaejmgdpnnhpmaa.QSty
