/- The closures of the reference's Mains, walked by hand. -/
import Derived.Test.YtaejmgdpnnhpmaaFlexTurn
namespace Go.Proofs.Ytaejmgdpnnhpmaa.QFlex
open Go.RowKit Go.Proofs.YtaejmgdpnnhpmaaW.PrintWords Go.Proofs.YtaejmgdpnnhpmaaW.PrintLast Go.Proofs.YtaejmgdpnnhpmaaW.PrintMore
attribute [local go_sem] max2_int min2_int max_two min_two max_three min_three max_four min_four
set_option linter.unusedVariables false
set_option linter.unusedSimpArgs false
def fac91 (gr : Bool) (x : S91) : Int := if gr then x.f3 else x.f4
theorem cell_below {w w' : World} {p : Addr} {v : Value} (h : w.cell? p = some v) (hb : Below w.heap.size w w') : w'.cell? p = some v := by
  rw [hb.cell (block_lt_of_cell h)]
  exact h
def freeN (left : Int) (its : List S91) (is : List Int) (st : List Bool) : Nat → Int
  | 0 => left
  | k + 1 => wrap64 (freeN left its is st k - (if rdOf false st (k : Int) then rd is (k : Int) else (rd_T91 its (k : Int)).f0))

set_option maxHeartbeats 8000000 in
set_option maxRecDepth 100000 in
theorem grow_calls (gG : Nat) (gr : Bool) (a0 a1 a2 a3 a4 a5 : Int) (w : World) (hg : w.heap[gG]? = some (.cells #[.bool gr] 4 (0, 0))) :
    Calls Try.prog 75 #[.agg #[.int .i64 a0, .int .i64 a1, .int .i64 a2, .int .i64 a3, .int .i64 a4, .int .i64 a5], .pointer (some ⟨gG, 0, none⟩)] w fun e w' => e = .returned (.int .i64 (fac91 gr ⟨a0, a1, a2, a3, a4, a5⟩)) ∧ Below w.heap.size w w' := by
  have KG := Aside0.mk hg
  have HB := Aside0.mk (Below.refl w.heap.size w)
  clear hg
  go_enter Try.func75, Try.ntmps75
  cases gr
  · go_wp2_with ((with_reducible refine gate_dst (N := 2) rfl ?_); refine box_event rfl (N := 2) rfl (cs := #[.int .i64 a0, .int .i64 a1, .int .i64 a2, .int .i64 a3, .int .i64 a4, .int .i64 a5]) (t := 91) (by first | (go_simp; done) | (go_simp; rfl)) ?_; intro gb hg_ w1 hbx hb; have KB1 := Aside0.mk hbx; have HB1 := Aside0.mk (below_step HB.out hb); have KG1 := Aside0.mk (blk_below KG.out hb); have hgc : w1.cell? ⟨gG, 0, none⟩ = some (.bool false) := (blk_cell KG1.out 0).trans rfl; have hb3 : w1.cell? ⟨gb, 3, none⟩ = some (.int .i64 a3) := (blk_cell KB1.out 3).trans rfl; have hb4 : w1.cell? ⟨gb, 4, none⟩ = some (.int .i64 a4) := (blk_cell KB1.out 4).trans rfl; clear hg_ hbx hb)
    go_ret
    exact ⟨rfl, HB1.out⟩
  · go_wp2_with ((with_reducible refine gate_dst (N := 2) rfl ?_); refine box_event rfl (N := 2) rfl (cs := #[.int .i64 a0, .int .i64 a1, .int .i64 a2, .int .i64 a3, .int .i64 a4, .int .i64 a5]) (t := 91) (by first | (go_simp; done) | (go_simp; rfl)) ?_; intro gb hg_ w1 hbx hb; have KB1 := Aside0.mk hbx; have HB1 := Aside0.mk (below_step HB.out hb); have KG1 := Aside0.mk (blk_below KG.out hb); have hgc : w1.cell? ⟨gG, 0, none⟩ = some (.bool true) := (blk_cell KG1.out 0).trans rfl; have hb3 : w1.cell? ⟨gb, 3, none⟩ = some (.int .i64 a3) := (blk_cell KB1.out 3).trans rfl; have hb4 : w1.cell? ⟨gb, 4, none⟩ = some (.int .i64 a4) := (blk_cell KB1.out 4).trans rfl; clear hg_ hbx hb)
    go_ret
    exact ⟨rfl, HB1.out⟩
set_option maxHeartbeats 8000000 in
set_option maxRecDepth 100000 in
theorem free_calls (gL gI gT gS : Nat) (left : Int) (its : List S91) (is : List Int) (st : List Bool) (A1 A2 A3 : Option Addr) (c1 c2 c3 n : Nat) (w : World)
    (hL : w.heap[gL]? = some (.cells #[.int .i64 left] 3 (0, 0))) (hI : w.heap[gI]? = some (.cells #[.slice A1 n c1] 49 (0, 0))) (hT : w.heap[gT]? = some (.cells #[.slice A2 n c2] 105 (0, 0))) (hS : w.heap[gS]? = some (.cells #[.slice A3 n c3] 51 (0, 0)))
    (r1 : Kd.C k91 w A1 n its) (r2 : Kd.bool.C w A2 n st) (r3 : (Kd.int .i64).C w A3 n is) (hn : n ≤ 50) :
    Calls Try.prog 76 #[.pointer (some ⟨gL, 0, none⟩), .pointer (some ⟨gI, 0, none⟩), .pointer (some ⟨gT, 0, none⟩), .pointer (some ⟨gS, 0, none⟩)] w fun e w' => e = .returned (.int .i64 (freeN left its is st n)) ∧ Below w.heap.size w w' := by
  have KT := Aside0.mk hT
  have KS := Aside0.mk hS
  have K1 := Aside0.mk r1
  have K2 := Aside0.mk r2
  have K3 := Aside0.mk r3
  have HB := Aside0.mk (Below.refl w.heap.size w)
  have cl : w.cell? ⟨gL, 0, none⟩ = some (.int .i64 left) := (blk_cell hL 0).trans rfl
  have ci : w.cell? ⟨gI, 0, none⟩ = some (.slice A1 n c1) := (blk_cell hI 0).trans rfl
  clear hL hI hT hS r1 r2 r3
  go_enter Try.func76, Try.ntmps76
  go_wp2
  clear cl ci
  go_loopw [5, 11] (fun v i wr => ∃ k : Nat, k ≤ n ∧ v = .int .i64 (freeN left its is st k) ∧ i = .int .i64 k ∧ Aside0 (Below w.heap.size w wr)) (fun _ i _ => n - (intOf i).toNat)
  case atStart => exact ⟨0, Nat.zero_le _, rfl, rfl, HB⟩
  case round =>
    clear HB
    obtain ⟨k, hk, rfl, rfl, HB⟩ := hrel
    by_cases hlt : k < n
    · obtain ⟨ad1, rfl, hx0, hx1, hx2, hx3, hx4, hx5⟩ := at_T91 (Kd.C_below K1.out HB.out) (k : Int) (by omega) (by omega)
      obtain ⟨ad2, rfl, hy⟩ := Kd.at_bool (Kd.C_below K2.out HB.out) (k : Int) (by omega) (by omega)
      obtain ⟨ad3, rfl, hz⟩ := Kd.at_int (Kd.C_below K3.out HB.out) (k : Int) (by omega) (by omega)
      have HS : Aside0 (freeN left its is st (k + 1) = wrap64 (freeN left its is st k - (if rdOf false st (k : Int) then rd is (k : Int) else (rd_T91 its (k : Int)).f0))) := ⟨rfl⟩
      obtain ⟨fk, hfk⟩ : ∃ q, freeN left its is st k = q := ⟨_, rfl⟩
      rw [hfk] at HS ⊢
      clear hfk
      obtain ⟨x, hx⟩ : ∃ x, rd_T91 its (k : Int) = x := ⟨_, rfl⟩
      rw [hx] at hx0 hx1 hx2 hx3 hx4 hx5 HS
      clear hx
      obtain ⟨a0, a1, a2, a3, a4, a5⟩ := x
      obtain ⟨y, hy_⟩ : ∃ y, rdOf false st (k : Int) = y := ⟨_, rfl⟩
      rw [hy_] at hy HS
      clear hy_
      obtain ⟨z, hz_⟩ : ∃ z, rd is (k : Int) = z := ⟨_, rfl⟩
      rw [hz_] at hz HS
      clear hz_
      simp only [Int.toNat_natCast] at hx0 hx1 hx2 hx3 hx4 hx5 hy hz HS
      have KTr := Aside0.mk (blk_below KT.out HB.out)
      have KSr := Aside0.mk (blk_below KS.out HB.out)
      have ct : wr.cell? ⟨gT, 0, none⟩ = some (.slice (some ad2) n c2) := (blk_cell KTr.out 0).trans rfl
      cases y
      · go_wp2_with (first | ((with_reducible refine gate_dst (N := 7) rfl ?_); refine box_event rfl (N := 7) rfl (cs := #[.int .i64 0, .int .i64 0, .int .i64 0, .int .i64 0, .int .i64 0, .int .i64 0]) (t := 91) (by first | (go_simp; done) | (go_simp; rfl)) ?_; intro gx hgx w3 hbx hb; have KX0 := Aside0.mk hbx; have HGX : Aside0 (wr.heap.size ≤ gx) := ⟨by omega⟩; have BX := Aside0.mk hb; clear hgx hbx hb) | ((with_reducible refine gate_store (t := 91) (p := 7) rfl ?_); refine store_event (t := 91) (p := 7) (w1 := w3.setCells gx 0 (#[.int .i64 a0, .int .i64 a1, .int .i64 a2, .int .i64 a3, .int .i64 a4, .int .i64 a5] : Array Value).toList) rfl rfl rfl (store_run 91 (.tmp 7) (.tmp 15) gx #[.int .i64 a0, .int .i64 a1, .int .i64 a2, .int .i64 a3, .int .i64 a4, .int .i64 a5] rfl rfl rfl (there_row KX0.out _ (Nat.le_refl 6)) (by kernel_rfl) (all_oneCell_toArray (cs := [.int .i64 a0, .int .i64 a1, .int .i64 a2, .int .i64 a3, .int .i64 a4, .int .i64 a5]) (by intro v hv; simp only [List.mem_cons, List.not_mem_nil, or_false] at hv; rcases hv with rfl | rfl | rfl | rfl | rfl | rfl <;> rfl))) ?_; intro w4 hw3; have KX : Aside0 (w4.heap[gx]? = some (.cells #[.int .i64 a0, .int .i64 a1, .int .i64 a2, .int .i64 a3, .int .i64 a4, .int .i64 a5] 91 (0, 0))) := ⟨by rw [hw3]; exact sets_row KX0.out rfl⟩; have BX3 : Aside0 (Below wr.heap.size wr w4) := ⟨by rw [hw3]; exact sets_below HGX.out _ 0 _ BX.out⟩; clear hw3; have cx0 : w4.cell? ⟨gx, 0, none⟩ = some (.int .i64 a0) := (blk_cell KX.out 0).trans rfl; have cx1 : w4.cell? ⟨gx, 1, none⟩ = some (.int .i64 a1) := (blk_cell KX.out 1).trans rfl; have cx2 : w4.cell? ⟨gx, 2, none⟩ = some (.int .i64 a2) := (blk_cell KX.out 2).trans rfl; have cx3 : w4.cell? ⟨gx, 3, none⟩ = some (.int .i64 a3) := (blk_cell KX.out 3).trans rfl; have cx4 : w4.cell? ⟨gx, 4, none⟩ = some (.int .i64 a4) := (blk_cell KX.out 4).trans rfl; have cx5 : w4.cell? ⟨gx, 5, none⟩ = some (.int .i64 a5) := (blk_cell KX.out 5).trans rfl; have ct4 : w4.cell? ⟨gT, 0, none⟩ = some (.slice (some ad2) n c2) := (blk_cell (blk_below KTr.out BX3.out) 0).trans rfl; have cs4 : w4.cell? ⟨gS, 0, none⟩ = some (.slice (some ad3) n c3) := (blk_cell (blk_below KSr.out BX3.out) 0).trans rfl; have hy4 : w4.cell? (ad2.add k) = some (.bool false) := cell_below hy BX3.out; have hz4 : w4.cell? (ad3.add k) = some (.int .i64 z) := cell_below hz BX3.out))
        go_roundw
        case rel => exact ⟨k + 1, by omega, by rw [HS.out]; rfl, by go_num, ⟨below_step HB.out BX3.out⟩⟩
        case measure => simp [intOf]; omega
      · go_wp2_with (first | ((with_reducible refine gate_dst (N := 7) rfl ?_); refine box_event rfl (N := 7) rfl (cs := #[.int .i64 0, .int .i64 0, .int .i64 0, .int .i64 0, .int .i64 0, .int .i64 0]) (t := 91) (by first | (go_simp; done) | (go_simp; rfl)) ?_; intro gx hgx w3 hbx hb; have KX0 := Aside0.mk hbx; have HGX : Aside0 (wr.heap.size ≤ gx) := ⟨by omega⟩; have BX := Aside0.mk hb; clear hgx hbx hb) | ((with_reducible refine gate_store (t := 91) (p := 7) rfl ?_); refine store_event (t := 91) (p := 7) (w1 := w3.setCells gx 0 (#[.int .i64 a0, .int .i64 a1, .int .i64 a2, .int .i64 a3, .int .i64 a4, .int .i64 a5] : Array Value).toList) rfl rfl rfl (store_run 91 (.tmp 7) (.tmp 15) gx #[.int .i64 a0, .int .i64 a1, .int .i64 a2, .int .i64 a3, .int .i64 a4, .int .i64 a5] rfl rfl rfl (there_row KX0.out _ (Nat.le_refl 6)) (by kernel_rfl) (all_oneCell_toArray (cs := [.int .i64 a0, .int .i64 a1, .int .i64 a2, .int .i64 a3, .int .i64 a4, .int .i64 a5]) (by intro v hv; simp only [List.mem_cons, List.not_mem_nil, or_false] at hv; rcases hv with rfl | rfl | rfl | rfl | rfl | rfl <;> rfl))) ?_; intro w4 hw3; have KX : Aside0 (w4.heap[gx]? = some (.cells #[.int .i64 a0, .int .i64 a1, .int .i64 a2, .int .i64 a3, .int .i64 a4, .int .i64 a5] 91 (0, 0))) := ⟨by rw [hw3]; exact sets_row KX0.out rfl⟩; have BX3 : Aside0 (Below wr.heap.size wr w4) := ⟨by rw [hw3]; exact sets_below HGX.out _ 0 _ BX.out⟩; clear hw3; have cx0 : w4.cell? ⟨gx, 0, none⟩ = some (.int .i64 a0) := (blk_cell KX.out 0).trans rfl; have cx1 : w4.cell? ⟨gx, 1, none⟩ = some (.int .i64 a1) := (blk_cell KX.out 1).trans rfl; have cx2 : w4.cell? ⟨gx, 2, none⟩ = some (.int .i64 a2) := (blk_cell KX.out 2).trans rfl; have cx3 : w4.cell? ⟨gx, 3, none⟩ = some (.int .i64 a3) := (blk_cell KX.out 3).trans rfl; have cx4 : w4.cell? ⟨gx, 4, none⟩ = some (.int .i64 a4) := (blk_cell KX.out 4).trans rfl; have cx5 : w4.cell? ⟨gx, 5, none⟩ = some (.int .i64 a5) := (blk_cell KX.out 5).trans rfl; have ct4 : w4.cell? ⟨gT, 0, none⟩ = some (.slice (some ad2) n c2) := (blk_cell (blk_below KTr.out BX3.out) 0).trans rfl; have cs4 : w4.cell? ⟨gS, 0, none⟩ = some (.slice (some ad3) n c3) := (blk_cell (blk_below KSr.out BX3.out) 0).trans rfl; have hy4 : w4.cell? (ad2.add k) = some (.bool true) := cell_below hy BX3.out; have hz4 : w4.cell? (ad3.add k) = some (.int .i64 z) := cell_below hz BX3.out))
        go_roundw
        case rel => exact ⟨k + 1, by omega, by rw [HS.out]; rfl, by go_num, ⟨below_step HB.out BX3.out⟩⟩
        case measure => simp [intOf]; omega
    · obtain rfl : k = n := by omega
      go_wp2
      go_ret
      exact ⟨rfl, HB.out⟩
end Go.Proofs.Ytaejmgdpnnhpmaa.QFlex
