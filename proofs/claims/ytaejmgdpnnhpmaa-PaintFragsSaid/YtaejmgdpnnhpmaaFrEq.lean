/- Eq over a slice of structs, of equal lists, walked by hand. -/
import Derived.Deep.MidRow
import Derived.Test.YtaejmgdpnnhpmaaStyRows
namespace Go.Proofs.Ytaejmgdpnnhpmaa.QSty
open Go.RowKit Go.Proofs.YtaejmgdpnnhpmaaW.PrintWords Go.Proofs.YtaejmgdpnnhpmaaW.PrintLast Go.Proofs.YtaejmgdpnnhpmaaW.PrintMore
set_option linter.unusedVariables false
set_option linter.unusedSimpArgs false

open Classical in
noncomputable def api_Cmd.f (l0 : List S45) (l1 : List S45) : Option Bool := if l0.length ≤ 1000000 then (if l0 = l1 then some true else none) else none
set_option maxHeartbeats 8000000 in
set_option maxRecDepth 100000 in
theorem api_Cmd.calls (A0 : Option Addr) (c0 : Nat) (l0 : List S45) (A1 : Option Addr) (c1 : Nat) (l1 : List S45) (r : Bool) (w : World) (hr0 : Kd.C k45 w A0 l0.length l0) (hc0 : l0.length ≤ c0) (hr1 : Kd.C k45 w A1 l1.length l1) (hc1 : l1.length ≤ c1) (h : api_Cmd.f l0 l1 = some r) :
    Calls Try.prog 23 #[.slice A0 l0.length c0, .slice A1 l1.length c1] w fun e w' => e = .returned (.bool r) ∧ Below w.heap.size w w' := by
  unfold api_Cmd.f at h
  split at h
  case isFalse => cases h
  rename_i hlen
  split at h
  case isFalse => cases h
  rename_i he
  subst he
  obtain rfl := Option.some.inj h
  have hu45 := Try.underlying45
  have HR0 := Aside0.mk hr0
  have HR1 := Aside0.mk hr1
  clear hr0 hr1 h hc0 hc1
  have HB := Aside0.mk (Below.refl w.heap.size w)
  have c3b1 : ((l0.length : Int) != (l0.length : Int)) = false := by simp
  go_enter Try.func23, Try.ntmps23
  go_wp2
  go_loopw [14] (fun i wr => ∃ k : Nat, k ≤ l0.length ∧ i = .int .i64 k ∧ Aside0 (Below w.heap.size w wr)) (fun i _ => l0.length - (intOf i).toNat)
  case atStart => exact ⟨0, by omega, rfl, HB⟩
  case round =>
    obtain ⟨k, hk, rfl, HBr⟩ := hrel
    rcases (by omega : k = l0.length ∨ k < l0.length) with rfl | hlt
    · have hd : decide ((l0.length : Int) < (l0.length : Int)) = false := decide_eq_false (by omega)
      go_wp2
      go_ret
      exact ⟨rfl, HBr.out⟩
    · have hd : decide ((k : Int) < (l0.length : Int)) = true := decide_eq_true (by omega)
      have p_ : (0 : Int) ≤ (k : Int) := by omega
      have q_ : (k : Int) < (l0.length : Int) := by omega
      obtain ⟨adx, ex, hx0, hx1, hx2, hx3, hx4, hx5, hx6, hx7, hx8⟩ := at_T45 HR0.out (k : Int) p_ q_
      cases ex
      obtain ⟨ady, ey, hy0, hy1, hy2, hy3, hy4, hy5, hy6, hy7, hy8⟩ := at_T45 HR1.out (k : Int) p_ q_
      cases ey
      have ek : ((k : Int).toNat) = k := Int.toNat_natCast k
      rw [ek] at hx0 hx1 hx2 hx3 hx4 hx5 hx6 hx7 hx8 hy0 hy1 hy2 hy3 hy4 hy5 hy6 hy7 hy8
      clear ek
      obtain ⟨e0, he0⟩ : ∃ v, (rd_T45 l0 (k : Int)).f0 = v := ⟨_, rfl⟩
      rw [he0] at hx0 hy0
      clear he0
      obtain ⟨e1, he1⟩ : ∃ v, (rd_T45 l0 (k : Int)).f1 = v := ⟨_, rfl⟩
      rw [he1] at hx1 hy1
      clear he1
      obtain ⟨e2, he2⟩ : ∃ v, (rd_T45 l0 (k : Int)).f2 = v := ⟨_, rfl⟩
      rw [he2] at hx2 hy2
      clear he2
      obtain ⟨e3, he3⟩ : ∃ v, (rd_T45 l0 (k : Int)).f3 = v := ⟨_, rfl⟩
      rw [he3] at hx3 hy3
      clear he3
      obtain ⟨e4, he4⟩ : ∃ v, (rd_T45 l0 (k : Int)).f4 = v := ⟨_, rfl⟩
      rw [he4] at hx4 hy4
      clear he4
      obtain ⟨e5, he5⟩ : ∃ v, (rd_T45 l0 (k : Int)).f5 = v := ⟨_, rfl⟩
      rw [he5] at hx5 hy5
      clear he5
      obtain ⟨e6, he6⟩ : ∃ v, (rd_T45 l0 (k : Int)).f6 = v := ⟨_, rfl⟩
      rw [he6] at hx6 hy6
      clear he6
      obtain ⟨e7, he7⟩ : ∃ v, (rd_T45 l0 (k : Int)).f7 = v := ⟨_, rfl⟩
      rw [he7] at hx7 hy7
      clear he7
      obtain ⟨e8, he8⟩ : ∃ v, (rd_T45 l0 (k : Int)).f8 = v := ⟨_, rfl⟩
      rw [he8] at hx8 hy8
      clear he8
      have Hx0 := Aside0.mk hx0
      have Hx1 := Aside0.mk hx1
      have Hx2 := Aside0.mk hx2
      have Hx3 := Aside0.mk hx3
      have Hx4 := Aside0.mk hx4
      have Hx5 := Aside0.mk hx5
      have Hx6 := Aside0.mk hx6
      have Hx7 := Aside0.mk hx7
      have Hx8 := Aside0.mk hx8
      have Hy0 := Aside0.mk hy0
      have Hy1 := Aside0.mk hy1
      have Hy2 := Aside0.mk hy2
      have Hy3 := Aside0.mk hy3
      have Hy4 := Aside0.mk hy4
      have Hy5 := Aside0.mk hy5
      have Hy6 := Aside0.mk hy6
      have Hy7 := Aside0.mk hy7
      have Hy8 := Aside0.mk hy8
      clear hy0 hy1 hy2 hy3 hy4 hy5 hy6 hy7 hy8
      replace hx0 := (HBr.out.cell (World.block_lt_of_cell? w _ hx0)).trans hx0
      replace hx1 := (HBr.out.cell (World.block_lt_of_cell? w _ hx1)).trans hx1
      replace hx2 := (HBr.out.cell (World.block_lt_of_cell? w _ hx2)).trans hx2
      replace hx3 := (HBr.out.cell (World.block_lt_of_cell? w _ hx3)).trans hx3
      replace hx4 := (HBr.out.cell (World.block_lt_of_cell? w _ hx4)).trans hx4
      replace hx5 := (HBr.out.cell (World.block_lt_of_cell? w _ hx5)).trans hx5
      replace hx6 := (HBr.out.cell (World.block_lt_of_cell? w _ hx6)).trans hx6
      replace hx7 := (HBr.out.cell (World.block_lt_of_cell? w _ hx7)).trans hx7
      replace hx8 := (HBr.out.cell (World.block_lt_of_cell? w _ hx8)).trans hx8
      replace p_ := eq_true p_
      replace q_ := eq_true q_
      clear Hx0 Hx1 Hx2 Hx3 Hx4 Hx5 Hx6 Hx7 Hx8
      have hone : (#[.int .i64 e0, .int .i64 e1, .int .i64 e2, .int .i64 e3, .int .i64 e4, .int .i64 e5, .int .i64 e6, .int .i64 e7, .string e8] : Array Value).all (·.oneCell') = true := all_oneCell_toArray (cs := [.int .i64 e0, .int .i64 e1, .int .i64 e2, .int .i64 e3, .int .i64 e4, .int .i64 e5, .int .i64 e6, .int .i64 e7, .string e8]) (by intro v hv; simp only [List.mem_cons, List.not_mem_nil, or_false] at hv; rcases hv with rfl | rfl | rfl | rfl | rfl | rfl | rfl | rfl | rfl <;> rfl)
      have HONE := Aside0.mk hone
      clear hone
      go_wp2_with (first | ((with_reducible refine gate_dst (N := 6) rfl ?_); refine box_event rfl (N := 6) rfl (cs := #[.int .i64 0, .int .i64 0, .int .i64 0, .int .i64 0, .int .i64 0, .int .i64 0, .int .i64 0, .int .i64 0, .string (⟨#[]⟩ : ByteArray)]) (t := 45) (by first | (go_simp; done) | (go_simp; rfl)) ?_; intro g6 hg_ w2 hbx hb; have K6 := Aside0.mk hbx; have B6 := Aside0.mk (show w.heap.size ≤ g6 by have := HBr.out.size; omega); have HB2 := Aside0.mk (below_step HBr.out hb); clear hg_ hbx hb; clear hx0 hx1 hx2 hx3 hx4 hx5 hx6 hx7 hx8) | (refine wpList_store_mid rfl 45 (.tmp 6) (.tmp 18) rfl g6 0 #[.int .i64 e0, .int .i64 e1, .int .i64 e2, .int .i64 e3, .int .i64 e4, .int .i64 e5, .int .i64 e6, .int .i64 e7, .string e8] rfl rfl (there_row (cs := #[.int .i64 0, .int .i64 0, .int .i64 0, .int .i64 0, .int .i64 0, .int .i64 0, .int .i64 0, .int .i64 0, .string (⟨#[]⟩ : ByteArray)]) K6.out _ (Nat.le_refl 9)) (by kernel_rfl) HONE.out ?_; have K6b := Aside0.mk (sets_row (vs := #[.int .i64 e0, .int .i64 e1, .int .i64 e2, .int .i64 e3, .int .i64 e4, .int .i64 e5, .int .i64 e6, .int .i64 e7, .string e8]) K6.out (by rfl)); have HB3 := Aside0.mk (sets_below B6.out (#[.int .i64 e0, .int .i64 e1, .int .i64 e2, .int .i64 e3, .int .i64 e4, .int .i64 e5, .int .i64 e6, .int .i64 e7, .string e8]).toList 0 w2 HB2.out); generalize w2.setCells g6 0 (#[.int .i64 e0, .int .i64 e1, .int .i64 e2, .int .i64 e3, .int .i64 e4, .int .i64 e5, .int .i64 e6, .int .i64 e7, .string e8]).toList = w3 at K6b HB3 ⊢))
      have z0 : w3.cell? ⟨g6, 0, none⟩ = some (.int .i64 e0) := (blk_cell K6b.out 0).trans rfl
      have hy0 := (HB3.out.cell (World.block_lt_of_cell? w _ Hy0.out)).trans Hy0.out
      have z1 : w3.cell? ⟨g6, 1, none⟩ = some (.int .i64 e1) := (blk_cell K6b.out 1).trans rfl
      have hy1 := (HB3.out.cell (World.block_lt_of_cell? w _ Hy1.out)).trans Hy1.out
      have z2 : w3.cell? ⟨g6, 2, none⟩ = some (.int .i64 e2) := (blk_cell K6b.out 2).trans rfl
      have hy2 := (HB3.out.cell (World.block_lt_of_cell? w _ Hy2.out)).trans Hy2.out
      have z3 : w3.cell? ⟨g6, 3, none⟩ = some (.int .i64 e3) := (blk_cell K6b.out 3).trans rfl
      have hy3 := (HB3.out.cell (World.block_lt_of_cell? w _ Hy3.out)).trans Hy3.out
      have z4 : w3.cell? ⟨g6, 4, none⟩ = some (.int .i64 e4) := (blk_cell K6b.out 4).trans rfl
      have hy4 := (HB3.out.cell (World.block_lt_of_cell? w _ Hy4.out)).trans Hy4.out
      have z5 : w3.cell? ⟨g6, 5, none⟩ = some (.int .i64 e5) := (blk_cell K6b.out 5).trans rfl
      have hy5 := (HB3.out.cell (World.block_lt_of_cell? w _ Hy5.out)).trans Hy5.out
      have z6 : w3.cell? ⟨g6, 6, none⟩ = some (.int .i64 e6) := (blk_cell K6b.out 6).trans rfl
      have hy6 := (HB3.out.cell (World.block_lt_of_cell? w _ Hy6.out)).trans Hy6.out
      have z7 : w3.cell? ⟨g6, 7, none⟩ = some (.int .i64 e7) := (blk_cell K6b.out 7).trans rfl
      have hy7 := (HB3.out.cell (World.block_lt_of_cell? w _ Hy7.out)).trans Hy7.out
      have z8 : w3.cell? ⟨g6, 8, none⟩ = some (.string e8) := (blk_cell K6b.out 8).trans rfl
      have hy8 := (HB3.out.cell (World.block_lt_of_cell? w _ Hy8.out)).trans Hy8.out
      repeat (go_quiet (fail); try go_wp2)
      go_roundw
      case rel => exact ⟨k + 1, by omega, by go_num, ⟨by repeat (first | exact HB3.out | apply below_drew1 | apply pw_below_drewN | refine below_set ?_ B6.out)⟩⟩
      case measure => simp [intOf]; omega
end Go.Proofs.Ytaejmgdpnnhpmaa.QSty
