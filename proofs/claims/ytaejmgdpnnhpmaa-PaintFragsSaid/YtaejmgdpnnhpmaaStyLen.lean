/- The reference's length of a property, walked by hand. -/
import Derived.Test.YtaejmgdpnnhpmaaStyFrame2
namespace Go.Proofs.Ytaejmgdpnnhpmaa.QSty
open Go.RowKit Go.Proofs.YtaejmgdpnnhpmaaW.PrintWords Go.Proofs.YtaejmgdpnnhpmaaW.PrintLast Go.Proofs.YtaejmgdpnnhpmaaW.PrintMore
set_option linter.unusedVariables false
set_option linter.unusedSimpArgs false
set_option maxHeartbeats 8000000 in
set_option maxRecDepth 100000 in
theorem clerestoryref3_length.calls (xs : List Int) (p room : Int) (hl : xs.length = 118) (c1 : 0 ≤ p) (c2 : p < 59) (w : World) :
    Calls Try.prog 50 #[sty xs, .int .i64 p, .int .i64 room] w fun e w' => e = .returned (.int .i64 (edg1 xs p room)) ∧ Below w.heap.size w w' := by
  have HC := Aside0.mk (fun w => clerestoryref3_Of.calls (xs.getD (p.toNat * 2) 0) (xs.getD (p.toNat * 2 + 1) 0) room _ _ w (of_b _ _ _))
  obtain ⟨e0, he0⟩ : ∃ e, edg1 xs p room = e := ⟨_, rfl⟩
  have HE : Aside0 ((ofv (xs.getD (p.toNat * 2) 0) (xs.getD (p.toNat * 2 + 1) 0) room).1 = e0) := ⟨by rw [← he0]; unfold edg1 len1; rw [if_pos c1, if_pos c2]⟩
  rw [he0]
  rw [HE.out] at HC
  clear he0
  unfold sty
  obtain ⟨a, ha⟩ : ∃ a, (nums .i64 xs).toArray = a := ⟨_, rfl⟩
  have hsz : a.size = 118 := by rw [← ha]; simp [nums, hl]
  have HA := Aside0.mk ha
  have HL := Aside0.mk hl
  have HP := Aside0.mk (And.intro c1 c2)
  rw [ha]
  clear ha hl
  have HB := Aside0.mk (Below.refl w.heap.size w)
  have q1 := eq_true c1
  have q2 := eq_true c2
  clear c1 c2
  go_enter Try.func50, Try.ntmps50
  go_wp2_with (first
    | ((with_reducible refine gate_dst (N := 3) rfl ?_); refine box_event rfl (N := 3) rfl (cs := a) (t := 25) (by first | (go_simp; done) | (go_simp; rfl)) ?_; intro gs hgs w1 hbx hb; have HB1 := Aside0.mk (below_step HB.out hb); have hv0 := sty_at hbx HA.out (p.toNat * 2) (by have := HL.out; have := HP.out; omega); have hv1 := sty_at hbx HA.out (p.toNat * 2 + 1) (by have := HL.out; have := HP.out; omega); clear hgs hbx hb)
    | (go_at_call 15; (refine (HC.out _).mono ?_); rintro e w5 ⟨rfl, hb⟩; have HB5 := Aside0.mk (below_step HB1.out hb); clear hb))
  go_ret
  exact ⟨rfl, HB5.out⟩
end Go.Proofs.Ytaejmgdpnnhpmaa.QSty
