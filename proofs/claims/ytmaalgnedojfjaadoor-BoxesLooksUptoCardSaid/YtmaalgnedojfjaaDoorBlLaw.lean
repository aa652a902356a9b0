/- The law BoxesLooks, walked by hand. -/
import Derived.Test.YtmaalgnedojfjaaDoorBlPlain
import Derived.Deep.DeepCutAuto
namespace Go.Proofs.YtmaalgnedojfjaaDoor.PBoxesLooks
open Go.RowKit Go.Proofs.YtmaalgnedojfjaaDoorW.PrintWords Go.Proofs.YtmaalgnedojfjaaDoorW.PrintLast Go.Proofs.YtmaalgnedojfjaaDoorW.PrintMore
attribute [local go_sem] max2_int min2_int max_two min_two max_three min_three max_four min_four
set_option linter.unusedVariables false
set_option linter.unusedSimpArgs false
theorem below_drew1b {B : Nat} {w W : World} (h : Below B w W) : Below B w W.drew := ⟨h.os, h.tape, h.output, h.size, h.block⟩
theorem Rsets_ty {α : Type} {d : Kd α} {e base : Nat} {ok : Nat → Prop} {w : World} {v : Value} {xs : List α} (h : d.R e w base ok v xs) (hE : d.E = []) {g q : Nat} {cells : Array Value} {t : Nat} (hb : w.heap[g]? = some (.cells cells t (0, 0))) (ht : e ≠ t) (vs : List Value) :
    d.R e (w.setCells g q vs) base ok v xs := Kd.R_mono (Kd.R_step (Kd.R_far1 h hE (Kd.R_ne h hb ht)) (fun k hk _ => sets_far hk.2 vs q w)) (fun k hk => hk.1)
theorem looks_calls (ini : List Int) (B : List S29) (L : List (List Int)) (A Al : Option Addr) (cb cl : Nat) (w : World) (hI : IniIs w ini) (hB : Kd.C k29 w A B.length B) (hL : Kd.C kS w Al L.length L) (hcb : B.length ≤ cb) (hcl : L.length ≤ cl) (hn : B.length ≤ 1048576) :
    Calls Tryd.prog 5 #[.slice A B.length cb, .slice Al L.length cl] w fun e w' => ∃ ev vv, e = .returned (.tuple #[vv, .int .i64 ev]) ∧ Below w.heap.size w w' ∧ ((∃ i, i < B.length ∧ bad L.length i (rd_T29 B (i : Int)) = true) → vv = .slice none 0 0 ∧ ev = 3) ∧
      ((∀ i, i < B.length → bad L.length i (rd_T29 B (i : Int)) = false) → ev = 0 ∧ kS.R 35 w' w.heap.size (fun _ => True) vv (looked ini L B B.length)) := by
  refine (boxes_Looks.walk ini B L A Al cb cl w hI hB hL hcb hcl hn).mono ?_
  rintro e w' ⟨hb, h | h⟩
  · obtain ⟨rfl, i, hi, hbad⟩ := h
    exact ⟨3, _, rfl, hb, fun _ => ⟨rfl, rfl⟩, fun hok => by rw [hok i hi] at hbad; cases hbad⟩
  · obtain ⟨hok, v, rfl, hr⟩ := h
    exact ⟨0, v, rfl, hb, fun ⟨i, hi, hbad⟩ => (by rw [hok i hi] at hbad; cases hbad), fun _ => ⟨rfl, hr⟩⟩
set_option maxHeartbeats 40000000 in
set_option maxRecDepth 100000 in
theorem BoxesLooks.walk (ini : List Int) (B : List S29) (L : List (List Int)) (A Al : Option Addr) (cb cl : Nat) (w : World) (hI : IniIs w ini) (hB : Kd.C k29 w A B.length B) (hL : Kd.C kS w Al L.length L) (hcb : B.length ≤ cb) (hcl : L.length ≤ cl) (hn : B.length ≤ 1048576) :
    Calls Tryd.prog 3 #[.slice A B.length cb, .slice Al L.length cl] w fun e w' => e = .returned (.bool true) ∧ Below w.heap.size w w' := by
  have HLOOK := Aside0.mk (looks_calls ini B L A Al cb cl w hI hB hL hcb hcl hn)
  have HI := Aside0.mk hI
  have HC := Aside0.mk hB
  have HL := Aside0.mk hL
  obtain ⟨n, hnn⟩ : ∃ n, B.length = n := ⟨_, rfl⟩
  obtain ⟨m, hmm⟩ : ∃ m, L.length = m := ⟨_, rfl⟩
  rw [hnn] at HC hcb hn HLOOK ⊢
  rw [hmm] at HL hcl HLOOK ⊢
  have HN := Aside0.mk hn
  have HM := Aside0.mk (Kd.C_max HL.out)
  clear hI hB hL hcb hcl hn hnn hmm
  go_enter Tryd.func3, Tryd.ntmps3
  go_wp2_with (go_at_call 5; (with_reducible refine HLOOK.out.mono ?_); rintro e w1 ⟨ev, vv, rfl, hb, h1, h2⟩; have HBADX := Aside0.mk h1; have HOKX := Aside0.mk h2; have HB1 := Aside0.mk hb; clear h1 h2 hb)
  clear HLOOK
  have HB := Aside0.mk (Below.refl w1.heap.size w1)
  go_loopw [22] (fun i wr => ∃ k : Nat, k ≤ n ∧ i = .int .i64 k ∧ Aside0 (∀ j : Nat, j < k → bad m j (rd_T29 B (j : Int)) = false) ∧ Aside0 (Below w1.heap.size w1 wr)) (fun i _ => n - (intOf i).toNat)
  case atStart => exact ⟨0, Nat.zero_le _, rfl, ⟨fun j hj => absurd hj (by omega)⟩, HB⟩
  case round =>
    clear HB
    obtain ⟨k, hk, rfl, HBD, HB⟩ := hrel
    by_cases hlt : k < n
    · obtain ⟨ad, A3, c3, rfl, hx0, hx1, hx2, hx3, hx4, _, _⟩ := at_T29 (Kd.C_below HC.out (below_step HB1.out HB.out)) (k : Int) (by omega) (by omega)
      obtain ⟨x, hx⟩ : ∃ x, rd_T29 B (k : Int) = x := ⟨_, rfl⟩
      rw [hx] at hx0 hx1 hx2 hx3 hx4
      have HXX := Aside0.mk hx
      clear hx
      obtain ⟨a0, a1, a2, l3, a4⟩ := x
      simp only [Int.toNat_natCast] at hx0 hx1 hx2 hx3 hx4
      obtain ⟨bd, hbd⟩ : ∃ q, bad m k ⟨a0, a1, a2, l3, a4⟩ = q := ⟨_, rfl⟩
      have hbl := bad_law m k ⟨a0, a1, a2, l3, a4⟩
      rw [hbd] at hbl
      simp only at hbl
      obtain ⟨q1, e0⟩ : ∃ q, decide (a1 < -1) = q := ⟨_, rfl⟩
      obtain ⟨q2, e1⟩ : ∃ q, decide ((m : Int) ≤ a1) = q := ⟨_, rfl⟩
      obtain ⟨b1, e2⟩ : ∃ q, ((k : Int) == 0) = q := ⟨_, rfl⟩
      obtain ⟨q6, e3⟩ : ∃ q, decide (a1 < 0) = q := ⟨_, rfl⟩
      obtain ⟨c7, e4⟩ : ∃ q, (a2 != -1) = q := ⟨_, rfl⟩
      obtain ⟨c8, e5⟩ : ∃ q, decide (a2 < 0) = q := ⟨_, rfl⟩
      obtain ⟨q5, e6⟩ : ∃ q, decide ((k : Int) ≤ a2) = q := ⟨_, rfl⟩
      rw [e0, e1, e2, e3, e4, e5, e6] at hbl
      obtain ⟨b0, hb0⟩ : ∃ q, (q1 || q2) = q := ⟨_, rfl⟩
      rw [hb0] at hbl
      have HBL := Aside0.mk hbl
      have HB0 := Aside0.mk hb0
      have HBQ := Aside0.mk hbd
      clear hbd hbl hb0
      go_upto_region 5 with (first | ((with_reducible refine gate_dst (N := 8) rfl ?_); refine box_event rfl (N := 8) rfl (cs := #[.int .i64 0, .int .i64 0, .int .i64 0, .slice none 0 0, .string ⟨#[]⟩]) (t := 29) (by first | (go_simp; done) | (go_simp; rfl)) ?_; intro gx hgx w3 hbx hb; have KX0 := Aside0.mk hbx; have HGX : Aside0 (wr.heap.size ≤ gx) := ⟨by omega⟩; have BX := Aside0.mk hb; clear hgx hbx hb) | ((with_reducible refine gate_store (t := 29) (p := 8) rfl ?_); refine store_event (t := 29) (p := 8) (w1 := w3.setCells gx 0 (#[.int .i64 a0, .int .i64 a1, .int .i64 a2, .slice A3 l3.length c3, .string a4] : Array Value).toList) rfl rfl rfl (store_run_at 29 (.tmp 8) (.tmp 26) gx 0 #[.int .i64 a0, .int .i64 a1, .int .i64 a2, .slice A3 l3.length c3, .string a4] rfl rfl rfl (there_row KX0.out _ (Nat.le_refl 5)) (by kernel_rfl) (all_oneCell_toArray (cs := [.int .i64 a0, .int .i64 a1, .int .i64 a2, .slice A3 l3.length c3, .string a4]) (by intro v hv; simp only [List.mem_cons, List.not_mem_nil, or_false] at hv; rcases hv with rfl | rfl | rfl | rfl | rfl <;> rfl))) ?_; intro w4 hw3; have KX : Aside0 (w4.heap[gx]? = some (.cells #[.int .i64 a0, .int .i64 a1, .int .i64 a2, .slice A3 l3.length c3, .string a4] 29 (0, 0))) := ⟨by rw [hw3]; exact sets_row KX0.out rfl⟩; have BX3 : Aside0 (Below wr.heap.size wr w4) := ⟨by rw [hw3]; exact sets_below HGX.out _ 0 _ BX.out⟩; clear hw3; have HB4 := Aside0.mk (below_step HB.out BX3.out); have cx1 : w4.cell? ⟨gx, 1, none⟩ = some (.int .i64 a1) := (blk_cell KX.out 1).trans rfl; have cx2 : w4.cell? ⟨gx, 2, none⟩ = some (.int .i64 a2) := (blk_cell KX.out 2).trans rfl))
      clear hx0 hx1 hx2 hx3 hx4
      go_cut [9] (fun s_ wx => s_ = .bool b0 ∧ Aside0 (Below w1.heap.size w1 wx) ∧ Aside0 (wx.heap[gx]? = some (.cells #[.int .i64 a0, .int .i64 a1, .int .i64 a2, .slice A3 l3.length c3, .string a4] 29 (0, 0))))
      case first => as_aux_lemma =>
        cases q1
        case true => (go_wp2; go_meet; (case rel => exact ⟨by rw [← HB0.out]; rfl, HB4, KX⟩))
        cases q2
        case true => (go_wp2; go_meet; (case rel => exact ⟨by rw [← HB0.out]; rfl, HB4, KX⟩))
        case false => (go_wp2; go_meet; (case rel => exact ⟨by rw [← HB0.out]; rfl, HB4, KX⟩))
      case rest =>
        clear HB KX HB4 cx1 cx2 KX0 HGX BX BX3
        obtain ⟨rfl, HB, KX⟩ := hcut
        have cx1 : wc.cell? ⟨gx, 1, none⟩ = some (.int .i64 a1) := (blk_cell KX.out 1).trans rfl
        have cx2 : wc.cell? ⟨gx, 2, none⟩ = some (.int .i64 a2) := (blk_cell KX.out 2).trans rfl
        go_upto_if 38 with fail
        go_cut [9] (fun s_ wx => s_ = .bool bd ∧ Aside0 (Below w1.heap.size w1 wx) ∧ Aside0 (wx.heap[gx]? = some (.cells #[.int .i64 a0, .int .i64 a1, .int .i64 a2, .slice A3 l3.length c3, .string a4] 29 (0, 0))))
        case first => as_aux_lemma =>
          cases b1
          case true =>
            cases b0
            case true => (go_wp2; go_meet; (case rel => exact ⟨by rw [HBL.out]; rfl, HB, KX⟩))
            cases q6
            case true => (go_wp2; go_meet; (case rel => exact ⟨by rw [HBL.out]; rfl, HB, KX⟩))
            cases c7
            case true => (go_wp2; go_meet; (case rel => exact ⟨by rw [HBL.out]; rfl, HB, KX⟩))
            case false => (go_wp2; go_meet; (case rel => exact ⟨by rw [HBL.out]; rfl, HB, KX⟩))
          cases b0
          case true => (go_wp2; go_meet; (case rel => exact ⟨by rw [HBL.out]; rfl, HB, KX⟩))
          cases c8
          case true => (go_wp2; go_meet; (case rel => exact ⟨by rw [HBL.out]; rfl, HB, KX⟩))
          cases q5
          case true => (go_wp2; go_meet; (case rel => exact ⟨by rw [HBL.out]; rfl, HB, KX⟩))
          case false => (go_wp2; go_meet; (case rel => exact ⟨by rw [HBL.out]; rfl, HB, KX⟩))
        case rest =>
          clear HB KX cx1 cx2 e0 e1 e2 e3 e4 e5 e6 HBL HB0
          obtain ⟨rfl, HB, KX⟩ := hcut
          cases bd
          case true =>
            obtain ⟨hv, he⟩ := HBADX.out ⟨k, hlt, by rw [HXX.out]; exact HBQ.out⟩
            subst hv
            subst he
            go_wp2_with (go_at_call 6; (with_reducible refine (clerestorylaw3_boxed.calls true _ rfl).mono ?_); rintro e w6 ⟨rfl, hb⟩; have HB6 := Aside0.mk (below_step HB.out hb); clear hb)
            go_ret
            exact ⟨rfl, below_step HB1.out HB6.out⟩
          have HBD1 : Aside0 (∀ j : Nat, j < k + 1 → bad m j (rd_T29 B (j : Int)) = false) := ⟨fun j hj => by by_cases e : j = k; (· subst e; rw [HXX.out]; exact HBQ.out); (· exact HBD.out j (by omega))⟩
          go_wp2
          go_roundw
          case rel => have hn_ := HN.out; have hw : wrap64 ((k : Int) + 1) = ((k + 1 : Nat) : Int) := (by unfold wrap64; omega); exact ⟨k + 1, by omega, by rw [hw], HBD1, HB⟩
          case measure => have hn_ := HN.out; have hw : wrap64 ((k : Int) + 1) = ((k + 1 : Nat) : Int) := (by unfold wrap64; omega); rw [hw]; simp only [intOf, Int.toNat_natCast]; omega
    · obtain rfl : n = k := by omega
      obtain ⟨he, hr⟩ := HOKX.out HBD.out
      subst he
      obtain ⟨A2, c2, hv⟩ := Kd.R_slice hr
      rw [looked_length] at hv
      subst hv
      obtain ⟨lk, hlk⟩ : ∃ q, looked ini L B n = q := ⟨_, rfl⟩
      rw [hlk] at hr
      have HLK := Aside0.mk hlk
      clear hlk
      have KV := Aside0.mk (Kd.R_below hr HB.out)
      have HBW := Aside0.mk (below_step HB1.out HB.out)
      clear hr HB HB1 HOKX HBADX
      go_wp2_with fail
      go_loopw [85] (fun i wr => ∃ k : Nat, k ≤ n ∧ i = .int .i64 k ∧ Aside0 (Below w.heap.size w wr) ∧ Aside0 (kS.R 35 wr w.heap.size (fun _ => True) (.slice A2 n c2) lk)) (fun i _ => n - (intOf i).toNat)
      case atStart => exact ⟨0, Nat.zero_le _, rfl, HBW, KV⟩
      case round =>
        clear HBW KV
        obtain ⟨k, hk, rfl, HB, KV⟩ := hrel
        by_cases hlt : k < n
        · obtain ⟨ad, A3, c3, rfl, hx0, hx1, hx2, hx3, hx4, _, _⟩ := at_T29 (Kd.C_below HC.out HB.out) (k : Int) (by omega) (by omega)
          have HLL : Aside0 (lk.length = n) := ⟨by rw [← HLK.out]; exact looked_length _ _ _ _⟩
          obtain ⟨gv, cv, hv, _, _⟩ := Kd.R_form KV.out (by have := HLL.out; omega)
          rw [HLL.out] at hv
          injection hv with hA hq_ hc_
          subst hA; subst hc_; clear hq_
          obtain ⟨x, hx⟩ : ∃ x, rd_T29 B (k : Int) = x := ⟨_, rfl⟩
          rw [hx] at hx0 hx1 hx2 hx3 hx4
          have HXX := Aside0.mk hx
          clear hx
          obtain ⟨a0, a1, a2, l3, a4⟩ := x
          simp only [Int.toNat_natCast] at hx0 hx1 hx2 hx3 hx4
          have HQ : Aside0 (bad m k ⟨a0, a1, a2, l3, a4⟩ = false) := ⟨by rw [← HXX.out]; exact HBD.out k hlt⟩
          have HP : Aside0 (a1 < 0 → ∃ j : Nat, a2 = (j : Int) ∧ j < k) := ⟨fun h => by
            have hq := HQ.out
            rw [bad_law] at hq
            simp only [decide_eq_true h] at hq
            by_cases hz : ((k : Int) == 0) = true
            · rw [if_pos hz] at hq; simp at hq
            · rw [if_neg hz] at hq
              simp only [Bool.or_eq_false_iff, decide_eq_false_iff_not] at hq
              exact ⟨a2.toNat, by omega, by omega⟩⟩
          have HJ : Aside0 (0 ≤ a1 → ∃ j : Nat, a1 = (j : Int) ∧ j < m) := ⟨fun h => by
            have hq := HQ.out
            unfold bad at hq
            simp only [Bool.or_eq_false_iff, decide_eq_false_iff_not] at hq
            exact ⟨a1.toNat, by omega, by omega⟩⟩
          have HVAL : Aside0 (∀ t i : Nat, t < 59 → (i = t * 2 ∨ i = t * 2 + 1) → (lk.getD k zS).getD i 0 = if 0 ≤ a1 then (L.getD a1.toNat zS).getD i 0 else if inh t then (lk.getD a2.toNat zS).getD i 0 else ini.getD i 0) := ⟨fun t i ht hi => by
            have h := looked_val ini L B n k t i hlt ht hi (by rw [HXX.out]; intro h; obtain ⟨j, e, hj⟩ := HP.out h; show a2.toNat < k; omega)
            rw [HLK.out, HXX.out] at h
            exact h⟩
          go_wp2_with (first | ((with_reducible refine gate_dst (N := 11) rfl ?_); refine box_event rfl (N := 11) rfl (cs := #[.int .i64 0, .int .i64 0, .int .i64 0, .slice none 0 0, .string ⟨#[]⟩]) (t := 29) (by first | (go_simp; done) | (go_simp; rfl)) ?_; intro gx hgx w3 hbx hb; have KX0 := Aside0.mk hbx; have HGX : Aside0 (wr.heap.size ≤ gx) := ⟨by omega⟩; have BX := Aside0.mk hb; clear hgx hbx hb) | ((with_reducible refine gate_store (t := 29) (p := 11) rfl ?_); refine store_event (t := 29) (p := 11) (w1 := w3.setCells gx 0 (#[.int .i64 a0, .int .i64 a1, .int .i64 a2, .slice A3 l3.length c3, .string a4] : Array Value).toList) rfl rfl rfl (store_run_at 29 (.tmp 11) (.tmp 89) gx 0 #[.int .i64 a0, .int .i64 a1, .int .i64 a2, .slice A3 l3.length c3, .string a4] rfl rfl rfl (there_row KX0.out _ (Nat.le_refl 5)) (by kernel_rfl) (all_oneCell_toArray (cs := [.int .i64 a0, .int .i64 a1, .int .i64 a2, .slice A3 l3.length c3, .string a4]) (by intro v hv; simp only [List.mem_cons, List.not_mem_nil, or_false] at hv; rcases hv with rfl | rfl | rfl | rfl | rfl <;> rfl))) ?_; intro w4 hw3; have KX : Aside0 (w4.heap[gx]? = some (.cells #[.int .i64 a0, .int .i64 a1, .int .i64 a2, .slice A3 l3.length c3, .string a4] 29 (0, 0))) := ⟨by rw [hw3]; exact sets_row KX0.out rfl⟩; have BX3 : Aside0 (Below wr.heap.size wr w4) := ⟨by rw [hw3]; exact sets_below HGX.out _ 0 _ BX.out⟩; clear hw3; have HB4 := Aside0.mk (below_step HB.out BX3.out); have KV4 := Aside0.mk (Kd.R_below KV.out BX3.out)))
          clear HB KV hx0 hx1 hx2 hx3 hx4
          go_loopw [90] (fun p wr => ∃ t : Nat, t ≤ 59 ∧ p = .int .i64 t ∧ Aside0 (Below w.heap.size w wr) ∧ Aside0 (wr.heap[gx]? = some (.cells #[.int .i64 a0, .int .i64 a1, .int .i64 a2, .slice A3 l3.length c3, .string a4] 29 (0, 0))) ∧ Aside0 (kS.R 35 wr w.heap.size (fun _ => True) (.slice (some ⟨gv, 0, none⟩) n c2) lk)) (fun p _ => 59 - (intOf p).toNat)
          case atStart => exact ⟨0, Nat.zero_le _, rfl, HB4, KX, KV4⟩
          case round =>
            clear HB4 KX KV4
            obtain ⟨t, ht, rfl, HB, KX, KV⟩ := hrel
            by_cases ht2 : t < 59
            · have HV0 := Aside0.mk (HVAL.out t (t * 2) ht2 (.inl rfl))
              have HV1 := Aside0.mk (HVAL.out t (t * 2 + 1) ht2 (.inr rfl))
              obtain ⟨ih, hih⟩ : ∃ q, inh t = q := ⟨_, rfl⟩
              rw [hih] at HV0 HV1
              have HIH := Aside0.mk hih
              clear hih
              obtain ⟨s0, hs0⟩ : ∃ q, (lk.getD k zS).getD (t * 2) 0 = q := ⟨_, rfl⟩
              obtain ⟨s1, hs1⟩ : ∃ q, (lk.getD k zS).getD (t * 2 + 1) 0 = q := ⟨_, rfl⟩
              rw [hs0] at HV0
              rw [hs1] at HV1
              have HS0 := Aside0.mk hs0
              have HS1 := Aside0.mk hs1
              clear hs0 hs1
              obtain ⟨i0, hi0⟩ : ∃ q, ini.getD (t * 2) 0 = q := ⟨_, rfl⟩
              obtain ⟨i1, hi1⟩ : ∃ q, ini.getD (t * 2 + 1) 0 = q := ⟨_, rfl⟩
              rw [hi0] at HV0
              rw [hi1] at HV1
              have HI0 := Aside0.mk hi0
              have HI1 := Aside0.mk hi1
              clear hi0 hi1
              go_upto_region 21 with (first | (go_at_call 7; (with_reducible refine (style_Initial.calls ini t ht2 _ (HI.out.below HB.out)).mono ?_); rw [HI0.out, HI1.out]; rintro e w7 ⟨rfl, hb⟩; have HB7 := Aside0.mk (below_step HB.out hb); have KX7 := Aside0.mk (blk_below KX.out hb); have KV7 := Aside0.mk (Kd.R_below KV.out hb); clear hb) | ((with_reducible refine gate_dst (N := 13) rfl ?_); refine box_event rfl (N := 13) rfl (cs := #[.int .i64 0, .int .i64 0]) (t := 32) (by first | (go_simp; done) | (go_simp; rfl)) ?_; intro gw hgw w8 hbx hb; have KW8 := Aside0.mk hbx; have HGW : Aside0 (w.heap.size ≤ gw ∧ gx < gw) := ⟨by have h1 := HB7.out.size; have h2 := blk_lt KX7.out; omega⟩; have HB8 := Aside0.mk (below_step HB7.out hb); have KX8 := Aside0.mk (blk_below KX7.out hb); have KV8 := Aside0.mk (Kd.R_below KV7.out hb); clear hgw hbx hb) | ((with_reducible refine gate_store (t := 32) (p := 13) rfl ?_); refine store_event (t := 32) (p := 13) (w1 := w8.setCells gw 0 (#[.int .i64 i0, .int .i64 i1] : Array Value).toList) rfl rfl rfl (store_run_at 32 (.tmp 13) (.tmp 94) gw 0 #[.int .i64 i0, .int .i64 i1] rfl rfl rfl (there_row KW8.out _ (Nat.le_refl 2)) (by kernel_rfl) (all_oneCell_toArray (cs := [.int .i64 i0, .int .i64 i1]) (by intro v hv; simp only [List.mem_cons, List.not_mem_nil, or_false] at hv; rcases hv with rfl | rfl <;> rfl))) ?_; intro w9 hw9; have KW9 : Aside0 (w9.heap[gw]? = some (.cells #[.int .i64 i0, .int .i64 i1] 32 (0, 0))) := ⟨by rw [hw9]; exact sets_row KW8.out rfl⟩; have HB9 : Aside0 (Below w.heap.size w w9) := ⟨by rw [hw9]; exact sets_below HGW.out.1 _ _ _ HB8.out⟩; have KX9 := Aside0.mk ((congrArg (fun W : World => W.heap[gx]?) hw9).trans ((sets_far (by have := HGW.out.2; omega) _ _ _).trans KX8.out)); have KV9 : Aside0 (kS.R 35 w9 w.heap.size (fun _ => True) (.slice (some ⟨gv, 0, none⟩) n c2) lk) := ⟨by rw [hw9]; exact Rsets_ty KV8.out rfl KW8.out (by decide) _⟩; clear hw9; have cx1 : w9.cell? ⟨gx, 1, none⟩ = some (.int .i64 a1) := (blk_cell KX9.out 1).trans rfl))
              by_cases h7 : 0 ≤ a1
              · obtain ⟨j, rfl, hj⟩ := HJ.out h7
                have d7 : decide (0 ≤ (j : Int)) = true := decide_eq_true (by omega)
                have HV0_ : Aside0 (s0 = (L.getD j zS).getD (t * 2) 0) := ⟨by rw [HV0.out, if_pos h7, Int.toNat_natCast]⟩
                have HV1_ : Aside0 (s1 = (L.getD j zS).getD (t * 2 + 1) 0) := ⟨by rw [HV1.out, if_pos h7, Int.toNat_natCast]⟩
                obtain ⟨al, cs, rfl, hcs, hK, hcl⟩ := Kd.C_get (Kd.C_below HL.out HB9.out) zS (j : Int) (by omega) (by omega)
                simp only [Int.toNat_natCast] at hK hcl
                obtain ⟨hy, hK⟩ := hK
                have cn : ∀ i : Nat, i < 118 → w9.cell? ((al.add (j * 118)).add i) = some (.int .i64 ((L.getD j zS).getD i 0)) := fun i hi => by
                  rw [Go.Deep.add_add]
                  refine hcl i _ ?_
                  rw [hK]
                  generalize L.getD j zS = y at hy ⊢
                  simp [nums, List.getElem?_eq_getElem (show i < y.length by omega)]
                have cl0 : w9.cell? ((al.add (j * 118)).add (t * 2)) = some (.int .i64 s0) := (cn _ (by omega)).trans (by rw [HV0_.out])
                have cl1 : w9.cell? ⟨((al.add (j * 118)).add (t * 2)).block, ((al.add (j * 118)).add (t * 2)).off + 1, none⟩ = some (.int .i64 s1) := by rw [← add_field _ _ 1 (by omega)]; exact (cn _ (by omega)).trans (by rw [HV1_.out])
                clear cn hcl hK hy hcs h7 HV0_ HV1_
                go_upto_region 25 with ((with_reducible refine gate_store (t := 32) (p := 13) rfl ?_); refine store_event (t := 32) (p := 13) (w1 := w9.setCells gw 0 (#[.int .i64 s0, .int .i64 s1] : Array Value).toList) rfl rfl rfl (store_run_at 32 (.tmp 13) (.tmp 105) gw 0 #[.int .i64 s0, .int .i64 s1] rfl rfl rfl (there_row KW9.out _ (Nat.le_refl 2)) (by kernel_rfl) (all_oneCell_toArray (cs := [.int .i64 s0, .int .i64 s1]) (by intro v hv; simp only [List.mem_cons, List.not_mem_nil, or_false] at hv; rcases hv with rfl | rfl <;> rfl))) ?_; intro w10 hw9; have KW10 : Aside0 (w10.heap[gw]? = some (.cells #[.int .i64 s0, .int .i64 s1] 32 (0, 0))) := ⟨by rw [hw9]; exact sets_row KW9.out rfl⟩; have HB10 : Aside0 (Below w.heap.size w w10) := ⟨by rw [hw9]; exact sets_below HGW.out.1 _ _ _ HB9.out⟩; have KX10 := Aside0.mk ((congrArg (fun W : World => W.heap[gx]?) hw9).trans ((sets_far (by have := HGW.out.2; omega) _ _ _).trans KX9.out)); have KV10 : Aside0 (kS.R 35 w10 w.heap.size (fun _ => True) (.slice (some ⟨gv, 0, none⟩) n c2) lk) := ⟨by rw [hw9]; exact Rsets_ty KV9.out rfl KW9.out (by decide) _⟩; clear hw9)
                have HBd := Aside0.mk (below_drew1b HB10.out)
                have KXd : Aside0 (w10.drew.heap[gx]? = _) := ⟨KX10.out⟩
                have KWd : Aside0 (w10.drew.heap[gw]? = _) := ⟨KW10.out⟩
                have KVd := Aside0.mk (Kd.R_below KV10.out (below_drew1b (Below.refl _ _)))
                have co0 : w10.drew.cell? ⟨gv, k * 118 + t * 2, none⟩ = some (.int .i64 s0) := (out_cell KVd.out k hlt (t * 2) (by omega)).trans (by rw [HS0.out])
                have co1 : w10.drew.cell? ⟨gv, k * 118 + t * 2 + 1, none⟩ = some (.int .i64 s1) := (out_cell KVd.out k hlt (t * 2 + 1) (by omega)).trans (by rw [HS1.out])
                refine start_ (n := 8) (S := fun w' => w'.cell? ⟨gv, k * 118 + t * 2, none⟩ = some (.int .i64 s0) ∧ w'.cell? ⟨gv, k * 118 + t * 2 + 1, none⟩ = some (.int .i64 s1) ∧ w'.cell? ⟨gw, 0, none⟩ = some (.int .i64 s0) ∧ w'.cell? ⟨gw, 1, none⟩ = some (.int .i64 s1)) (ds := []) #[false, false, false, false, false, false, false, false] (by kernel_rfl) rfl rfl ⟨co0, co1, (blk_cell KWd.out 0).trans rfl, (blk_cell KWd.out 1).trans rfl⟩ (fun hHeld => ?_)
                refine pure_ (i := 0) (N := some 116) (v := ?_) (a' := ?_) #[true, false, false, false, false, false, false, false] rfl rfl (by kernel_rfl) (fun _ _ _ h => h) (Or.inl ⟨by rfl, ?_⟩) ?_ ?_
                rotate_left
                · intro w'
                  go_simp
                  with_reducible rfl
                rotate_left
                · simp only [Act.put, List.setIfInBounds_toArray, List.set_cons_zero, List.set_cons_succ, i64_w, i32_w]
                  rfl
                refine pure_ (i := 1) (N := some 117) (v := ?_) (a' := ?_) #[true, true, false, false, false, false, false, false] rfl rfl (by kernel_rfl) (fun _ _ _ h => h) (Or.inl ⟨by rfl, ?_⟩) ?_ ?_
                rotate_left
                · intro w'
                  go_simp
                  with_reducible rfl
                rotate_left
                · simp only [Act.put, List.setIfInBounds_toArray, List.set_cons_zero, List.set_cons_succ, i64_w, i32_w]
                  rfl
                refine pure_ (i := 2) (N := some 118) (v := ?_) (a' := ?_) #[true, true, true, false, false, false, false, false] rfl rfl (by kernel_rfl) (fun _ _ _ h => h) (Or.inl ⟨by rfl, ?_⟩) ?_ ?_
                rotate_left
                · intro w'
                  go_simp
                  with_reducible rfl
                rotate_left
                · simp only [Act.put, List.setIfInBounds_toArray, List.set_cons_zero, List.set_cons_succ, i64_w, i32_w]
                  rfl
                refine pure_ (i := 3) (N := some 119) (v := ?_) (a' := ?_) #[true, true, true, true, false, false, false, false] rfl rfl (by kernel_rfl) (fun _ _ _ h => h) (Or.inl ⟨by rfl, ?_⟩) ?_ ?_
                rotate_left
                · intro w'
                  go_simp
                  with_reducible rfl
                rotate_left
                · simp only [Act.put, List.setIfInBounds_toArray, List.set_cons_zero, List.set_cons_succ, i64_w, i32_w]
                  rfl
                refine pure_ (i := 4) (N := some 120) (v := ?_) (a' := ?_) #[true, true, true, true, true, false, false, false] rfl rfl (by kernel_rfl) (fun _ _ _ h => h) (Or.inl ⟨by rfl, ?_⟩) ?_ ?_
                rotate_left
                · intro w'
                  go_simp
                  with_reducible rfl
                rotate_left
                · simp only [Act.put, List.setIfInBounds_toArray, List.set_cons_zero, List.set_cons_succ, i64_w, i32_w]
                  rfl
                refine take_ (i := 5) (N := some 121) (v := ?_) (a' := ?_) #[true, true, true, true, true, true, false, false] rfl rfl (by kernel_rfl) (fun _ _ _ h => h) (Or.inl ⟨by rfl, ?_⟩) hHeld ?_ ?_
                rotate_left
                · rintro w' ⟨s0, s1, s2, s3⟩
                  go_simp
                  with_reducible rfl
                rotate_left
                · simp only [Act.put, List.setIfInBounds_toArray, List.set_cons_zero, List.set_cons_succ, i64_w, i32_w]
                  rfl
                refine take_ (i := 6) (N := some 122) (v := ?_) (a' := ?_) #[true, true, true, true, true, true, true, false] rfl rfl (by kernel_rfl) (fun _ _ _ h => h) (Or.inl ⟨by rfl, ?_⟩) hHeld ?_ ?_
                rotate_left
                · rintro w' ⟨s0, s1, s2, s3⟩
                  go_simp
                  with_reducible rfl
                rotate_left
                · simp only [Act.put, List.setIfInBounds_toArray, List.set_cons_zero, List.set_cons_succ, i64_w, i32_w]
                  rfl
                refine pure_ (i := 7) (N := some 123) (v := ?_) (a' := ?_) #[true, true, true, true, true, true, true, true] rfl rfl (by kernel_rfl) (fun _ _ _ h => h) (Or.inl ⟨by rfl, ?_⟩) ?_ ?_
                rotate_left
                · intro w'
                  go_simp
                  with_reducible rfl
                rotate_left
                · simp only [Act.put, List.setIfInBounds_toArray, List.set_cons_zero, List.set_cons_succ, i64_w, i32_w]
                  rfl
                refine done_ (by kernel_rfl) ?_
                clear co0 co1
                go_wp2
                go_roundw
                case rel => exact ⟨t + 1, by omega, by go_num, HBd, KXd, KVd⟩
                case measure => simp [intOf]; omega
              · have d7 : decide (0 ≤ a1) = false := decide_eq_false h7
                obtain ⟨j, rfl, hj⟩ := HP.out (by omega)
                have HV0_ : Aside0 (s0 = if ih then (lk.getD j zS).getD (t * 2) 0 else i0) := ⟨by rw [HV0.out, if_neg h7, Int.toNat_natCast]⟩
                have HV1_ : Aside0 (s1 = if ih then (lk.getD j zS).getD (t * 2 + 1) 0 else i1) := ⟨by rw [HV1.out, if_neg h7, Int.toNat_natCast]⟩
                clear h7
                cases ih
                · go_upto_region 25 with (go_at_call 8; (with_reducible refine (style_Inherits.calls (t : Int) (inh t) _ (inh_f t)).mono ?_); rw [HIH.out]; rintro e w10 ⟨rfl, hd⟩; have hb := hd.below; clear hd; have HB10 := Aside0.mk (below_step HB9.out hb); have KX10 := Aside0.mk (blk_below KX9.out hb); have KW10 := Aside0.mk (blk_below KW9.out hb); have KV10 := Aside0.mk (Kd.R_below KV9.out hb); have cx2 : w10.cell? ⟨gx, 2, none⟩ = some (.int .i64 (j : Int)) := (blk_cell KX10.out 2).trans rfl; clear hb)
                  have KW11 : Aside0 (w10.heap[gw]? = some (.cells #[.int .i64 s0, .int .i64 s1] 32 (0, 0))) := ⟨by rw [HV0_.out, HV1_.out]; exact KW10.out⟩
                  clear KW10
                  have KW10 := KW11
                  clear KW11
                  have HBd := Aside0.mk (below_drew1b HB10.out)
                  have KXd : Aside0 (w10.drew.heap[gx]? = _) := ⟨KX10.out⟩
                  have KWd : Aside0 (w10.drew.heap[gw]? = _) := ⟨KW10.out⟩
                  have KVd := Aside0.mk (Kd.R_below KV10.out (below_drew1b (Below.refl _ _)))
                  have co0 : w10.drew.cell? ⟨gv, k * 118 + t * 2, none⟩ = some (.int .i64 s0) := (out_cell KVd.out k hlt (t * 2) (by omega)).trans (by rw [HS0.out])
                  have co1 : w10.drew.cell? ⟨gv, k * 118 + t * 2 + 1, none⟩ = some (.int .i64 s1) := (out_cell KVd.out k hlt (t * 2 + 1) (by omega)).trans (by rw [HS1.out])
                  refine start_ (n := 8) (S := fun w' => w'.cell? ⟨gv, k * 118 + t * 2, none⟩ = some (.int .i64 s0) ∧ w'.cell? ⟨gv, k * 118 + t * 2 + 1, none⟩ = some (.int .i64 s1) ∧ w'.cell? ⟨gw, 0, none⟩ = some (.int .i64 s0) ∧ w'.cell? ⟨gw, 1, none⟩ = some (.int .i64 s1)) (ds := []) #[false, false, false, false, false, false, false, false] (by kernel_rfl) rfl rfl ⟨co0, co1, (blk_cell KWd.out 0).trans rfl, (blk_cell KWd.out 1).trans rfl⟩ (fun hHeld => ?_)
                  refine pure_ (i := 0) (N := some 116) (v := ?_) (a' := ?_) #[true, false, false, false, false, false, false, false] rfl rfl (by kernel_rfl) (fun _ _ _ h => h) (Or.inl ⟨by rfl, ?_⟩) ?_ ?_
                  rotate_left
                  · intro w'
                    go_simp
                    with_reducible rfl
                  rotate_left
                  · simp only [Act.put, List.setIfInBounds_toArray, List.set_cons_zero, List.set_cons_succ, i64_w, i32_w]
                    rfl
                  refine pure_ (i := 1) (N := some 117) (v := ?_) (a' := ?_) #[true, true, false, false, false, false, false, false] rfl rfl (by kernel_rfl) (fun _ _ _ h => h) (Or.inl ⟨by rfl, ?_⟩) ?_ ?_
                  rotate_left
                  · intro w'
                    go_simp
                    with_reducible rfl
                  rotate_left
                  · simp only [Act.put, List.setIfInBounds_toArray, List.set_cons_zero, List.set_cons_succ, i64_w, i32_w]
                    rfl
                  refine pure_ (i := 2) (N := some 118) (v := ?_) (a' := ?_) #[true, true, true, false, false, false, false, false] rfl rfl (by kernel_rfl) (fun _ _ _ h => h) (Or.inl ⟨by rfl, ?_⟩) ?_ ?_
                  rotate_left
                  · intro w'
                    go_simp
                    with_reducible rfl
                  rotate_left
                  · simp only [Act.put, List.setIfInBounds_toArray, List.set_cons_zero, List.set_cons_succ, i64_w, i32_w]
                    rfl
                  refine pure_ (i := 3) (N := some 119) (v := ?_) (a' := ?_) #[true, true, true, true, false, false, false, false] rfl rfl (by kernel_rfl) (fun _ _ _ h => h) (Or.inl ⟨by rfl, ?_⟩) ?_ ?_
                  rotate_left
                  · intro w'
                    go_simp
                    with_reducible rfl
                  rotate_left
                  · simp only [Act.put, List.setIfInBounds_toArray, List.set_cons_zero, List.set_cons_succ, i64_w, i32_w]
                    rfl
                  refine pure_ (i := 4) (N := some 120) (v := ?_) (a' := ?_) #[true, true, true, true, true, false, false, false] rfl rfl (by kernel_rfl) (fun _ _ _ h => h) (Or.inl ⟨by rfl, ?_⟩) ?_ ?_
                  rotate_left
                  · intro w'
                    go_simp
                    with_reducible rfl
                  rotate_left
                  · simp only [Act.put, List.setIfInBounds_toArray, List.set_cons_zero, List.set_cons_succ, i64_w, i32_w]
                    rfl
                  refine take_ (i := 5) (N := some 121) (v := ?_) (a' := ?_) #[true, true, true, true, true, true, false, false] rfl rfl (by kernel_rfl) (fun _ _ _ h => h) (Or.inl ⟨by rfl, ?_⟩) hHeld ?_ ?_
                  rotate_left
                  · rintro w' ⟨s0, s1, s2, s3⟩
                    go_simp
                    with_reducible rfl
                  rotate_left
                  · simp only [Act.put, List.setIfInBounds_toArray, List.set_cons_zero, List.set_cons_succ, i64_w, i32_w]
                    rfl
                  refine take_ (i := 6) (N := some 122) (v := ?_) (a' := ?_) #[true, true, true, true, true, true, true, false] rfl rfl (by kernel_rfl) (fun _ _ _ h => h) (Or.inl ⟨by rfl, ?_⟩) hHeld ?_ ?_
                  rotate_left
                  · rintro w' ⟨s0, s1, s2, s3⟩
                    go_simp
                    with_reducible rfl
                  rotate_left
                  · simp only [Act.put, List.setIfInBounds_toArray, List.set_cons_zero, List.set_cons_succ, i64_w, i32_w]
                    rfl
                  refine pure_ (i := 7) (N := some 123) (v := ?_) (a' := ?_) #[true, true, true, true, true, true, true, true] rfl rfl (by kernel_rfl) (fun _ _ _ h => h) (Or.inl ⟨by rfl, ?_⟩) ?_ ?_
                  rotate_left
                  · intro w'
                    go_simp
                    with_reducible rfl
                  rotate_left
                  · simp only [Act.put, List.setIfInBounds_toArray, List.set_cons_zero, List.set_cons_succ, i64_w, i32_w]
                    rfl
                  refine done_ (by kernel_rfl) ?_
                  clear co0 co1
                  go_wp2
                  go_roundw
                  case rel => exact ⟨t + 1, by omega, by go_num, HBd, KXd, KVd⟩
                  case measure => simp [intOf]; omega
                · go_upto_region 25 with (first | (go_at_call 8; (with_reducible refine (style_Inherits.calls (t : Int) (inh t) _ (inh_f t)).mono ?_); rw [HIH.out]; rintro e w10 ⟨rfl, hd⟩; have hb := hd.below; clear hd; have HB10 := Aside0.mk (below_step HB9.out hb); have KX10 := Aside0.mk (blk_below KX9.out hb); have KW10 := Aside0.mk (blk_below KW9.out hb); have KV10 := Aside0.mk (Kd.R_below KV9.out hb); have cx2 : w10.cell? ⟨gx, 2, none⟩ = some (.int .i64 (j : Int)) := (blk_cell KX10.out 2).trans rfl; have cv0 : w10.cell? ⟨gv, j * 118 + t * 2, none⟩ = some (.int .i64 s0) := (out_cell KV10.out j (by omega) (t * 2) (by omega)).trans (by rw [HV0_.out]; rfl); have cv1 : w10.cell? ⟨gv, j * 118 + t * 2 + 1, none⟩ = some (.int .i64 s1) := (out_cell KV10.out j (by omega) (t * 2 + 1) (by omega)).trans (by rw [HV1_.out]; rfl); clear hb) | ((with_reducible refine gate_store (t := 32) (p := 13) rfl ?_); refine store_event (t := 32) (p := 13) (w1 := w10.setCells gw 0 (#[.int .i64 s0, .int .i64 s1] : Array Value).toList) rfl rfl rfl (store_run_at 32 (.tmp 13) (.tmp 115) gw 0 #[.int .i64 s0, .int .i64 s1] rfl rfl rfl (there_row KW10.out _ (Nat.le_refl 2)) (by kernel_rfl) (all_oneCell_toArray (cs := [.int .i64 s0, .int .i64 s1]) (by intro v hv; simp only [List.mem_cons, List.not_mem_nil, or_false] at hv; rcases hv with rfl | rfl <;> rfl))) ?_; intro w11 hw9; have KW11 : Aside0 (w11.heap[gw]? = some (.cells #[.int .i64 s0, .int .i64 s1] 32 (0, 0))) := ⟨by rw [hw9]; exact sets_row KW10.out rfl⟩; have HB11 : Aside0 (Below w.heap.size w w11) := ⟨by rw [hw9]; exact sets_below HGW.out.1 _ _ _ HB10.out⟩; have KX11 := Aside0.mk ((congrArg (fun W : World => W.heap[gx]?) hw9).trans ((sets_far (by have := HGW.out.2; omega) _ _ _).trans KX10.out)); have KV11 : Aside0 (kS.R 35 w11 w.heap.size (fun _ => True) (.slice (some ⟨gv, 0, none⟩) n c2) lk) := ⟨by rw [hw9]; exact Rsets_ty KV10.out rfl KW10.out (by decide) _⟩; clear hw9))
                  have HBd := Aside0.mk (below_drew1b HB11.out)
                  have KXd : Aside0 (w11.drew.heap[gx]? = _) := ⟨KX11.out⟩
                  have KWd : Aside0 (w11.drew.heap[gw]? = _) := ⟨KW11.out⟩
                  have KVd := Aside0.mk (Kd.R_below KV11.out (below_drew1b (Below.refl _ _)))
                  have co0 : w11.drew.cell? ⟨gv, k * 118 + t * 2, none⟩ = some (.int .i64 s0) := (out_cell KVd.out k hlt (t * 2) (by omega)).trans (by rw [HS0.out])
                  have co1 : w11.drew.cell? ⟨gv, k * 118 + t * 2 + 1, none⟩ = some (.int .i64 s1) := (out_cell KVd.out k hlt (t * 2 + 1) (by omega)).trans (by rw [HS1.out])
                  refine start_ (n := 8) (S := fun w' => w'.cell? ⟨gv, k * 118 + t * 2, none⟩ = some (.int .i64 s0) ∧ w'.cell? ⟨gv, k * 118 + t * 2 + 1, none⟩ = some (.int .i64 s1) ∧ w'.cell? ⟨gw, 0, none⟩ = some (.int .i64 s0) ∧ w'.cell? ⟨gw, 1, none⟩ = some (.int .i64 s1)) (ds := []) #[false, false, false, false, false, false, false, false] (by kernel_rfl) rfl rfl ⟨co0, co1, (blk_cell KWd.out 0).trans rfl, (blk_cell KWd.out 1).trans rfl⟩ (fun hHeld => ?_)
                  refine pure_ (i := 0) (N := some 116) (v := ?_) (a' := ?_) #[true, false, false, false, false, false, false, false] rfl rfl (by kernel_rfl) (fun _ _ _ h => h) (Or.inl ⟨by rfl, ?_⟩) ?_ ?_
                  rotate_left
                  · intro w'
                    go_simp
                    with_reducible rfl
                  rotate_left
                  · simp only [Act.put, List.setIfInBounds_toArray, List.set_cons_zero, List.set_cons_succ, i64_w, i32_w]
                    rfl
                  refine pure_ (i := 1) (N := some 117) (v := ?_) (a' := ?_) #[true, true, false, false, false, false, false, false] rfl rfl (by kernel_rfl) (fun _ _ _ h => h) (Or.inl ⟨by rfl, ?_⟩) ?_ ?_
                  rotate_left
                  · intro w'
                    go_simp
                    with_reducible rfl
                  rotate_left
                  · simp only [Act.put, List.setIfInBounds_toArray, List.set_cons_zero, List.set_cons_succ, i64_w, i32_w]
                    rfl
                  refine pure_ (i := 2) (N := some 118) (v := ?_) (a' := ?_) #[true, true, true, false, false, false, false, false] rfl rfl (by kernel_rfl) (fun _ _ _ h => h) (Or.inl ⟨by rfl, ?_⟩) ?_ ?_
                  rotate_left
                  · intro w'
                    go_simp
                    with_reducible rfl
                  rotate_left
                  · simp only [Act.put, List.setIfInBounds_toArray, List.set_cons_zero, List.set_cons_succ, i64_w, i32_w]
                    rfl
                  refine pure_ (i := 3) (N := some 119) (v := ?_) (a' := ?_) #[true, true, true, true, false, false, false, false] rfl rfl (by kernel_rfl) (fun _ _ _ h => h) (Or.inl ⟨by rfl, ?_⟩) ?_ ?_
                  rotate_left
                  · intro w'
                    go_simp
                    with_reducible rfl
                  rotate_left
                  · simp only [Act.put, List.setIfInBounds_toArray, List.set_cons_zero, List.set_cons_succ, i64_w, i32_w]
                    rfl
                  refine pure_ (i := 4) (N := some 120) (v := ?_) (a' := ?_) #[true, true, true, true, true, false, false, false] rfl rfl (by kernel_rfl) (fun _ _ _ h => h) (Or.inl ⟨by rfl, ?_⟩) ?_ ?_
                  rotate_left
                  · intro w'
                    go_simp
                    with_reducible rfl
                  rotate_left
                  · simp only [Act.put, List.setIfInBounds_toArray, List.set_cons_zero, List.set_cons_succ, i64_w, i32_w]
                    rfl
                  refine take_ (i := 5) (N := some 121) (v := ?_) (a' := ?_) #[true, true, true, true, true, true, false, false] rfl rfl (by kernel_rfl) (fun _ _ _ h => h) (Or.inl ⟨by rfl, ?_⟩) hHeld ?_ ?_
                  rotate_left
                  · rintro w' ⟨s0, s1, s2, s3⟩
                    go_simp
                    with_reducible rfl
                  rotate_left
                  · simp only [Act.put, List.setIfInBounds_toArray, List.set_cons_zero, List.set_cons_succ, i64_w, i32_w]
                    rfl
                  refine take_ (i := 6) (N := some 122) (v := ?_) (a' := ?_) #[true, true, true, true, true, true, true, false] rfl rfl (by kernel_rfl) (fun _ _ _ h => h) (Or.inl ⟨by rfl, ?_⟩) hHeld ?_ ?_
                  rotate_left
                  · rintro w' ⟨s0, s1, s2, s3⟩
                    go_simp
                    with_reducible rfl
                  rotate_left
                  · simp only [Act.put, List.setIfInBounds_toArray, List.set_cons_zero, List.set_cons_succ, i64_w, i32_w]
                    rfl
                  refine pure_ (i := 7) (N := some 123) (v := ?_) (a' := ?_) #[true, true, true, true, true, true, true, true] rfl rfl (by kernel_rfl) (fun _ _ _ h => h) (Or.inl ⟨by rfl, ?_⟩) ?_ ?_
                  rotate_left
                  · intro w'
                    go_simp
                    with_reducible rfl
                  rotate_left
                  · simp only [Act.put, List.setIfInBounds_toArray, List.set_cons_zero, List.set_cons_succ, i64_w, i32_w]
                    rfl
                  refine done_ (by kernel_rfl) ?_
                  clear co0 co1
                  go_wp2
                  go_roundw
                  case rel => exact ⟨t + 1, by omega, by go_num, HBd, KXd, KVd⟩
                  case measure => simp [intOf]; omega
            · obtain rfl : t = 59 := by omega
              go_wp2
              go_roundw
              case rel => have hn_ := HN.out; have hw : wrap64 ((k : Int) + 1) = ((k + 1 : Nat) : Int) := (by unfold wrap64; omega); exact ⟨k + 1, by omega, by rw [hw], HB, KV⟩
              case measure => have hn_ := HN.out; have hw : wrap64 ((k : Int) + 1) = ((k + 1 : Nat) : Int) := (by unfold wrap64; omega); rw [hw]; simp only [intOf, Int.toNat_natCast]; omega
        · obtain rfl : n = k := by omega
          go_wp2_with (go_at_call 6; (with_reducible refine (clerestorylaw3_boxed.calls true _ rfl).mono ?_); rintro e w6 ⟨rfl, hb⟩; have HB6 := Aside0.mk (below_step HB.out hb); clear hb)
          go_ret
          exact ⟨rfl, HB6.out⟩
end Go.Proofs.YtmaalgnedojfjaaDoor.PBoxesLooks
