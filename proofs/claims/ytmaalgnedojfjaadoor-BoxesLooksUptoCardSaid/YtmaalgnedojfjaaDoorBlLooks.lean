/- boxes.Looks, walked by hand. -/
import Derived.Test.YtmaalgnedojfjaaDoorBlBuild
import Derived.Deep.DeepCutAuto
namespace Go.Proofs.YtmaalgnedojfjaaDoor.PBoxesLooks
open Go.RowKit Go.Proofs.YtmaalgnedojfjaaDoorW.PrintWords Go.Proofs.YtmaalgnedojfjaaDoorW.PrintLast Go.Proofs.YtmaalgnedojfjaaDoorW.PrintMore
attribute [local go_sem] max2_int min2_int max_two min_two max_three min_three max_four min_four
attribute [local go_sem] zero35
set_option linter.unusedVariables false
set_option linter.unusedSimpArgs false
theorem out_cell {W : World} {base g n cap : Nat} {ok : Nat → Prop} {xs : List (List Int)} (h : kS.R 35 W base ok (.slice (some ⟨g, 0, none⟩) n cap) xs) (j : Nat) (hj : j < n) (i : Nat) (hi : i < 118) :
    W.cell? ⟨g, j * 118 + i, none⟩ = some (.int .i64 ((xs.getD j zS).getD i 0)) := by
  obtain ⟨c, h1, h2, h3, _⟩ := Kd.R_elem h zS (j : Int) (by omega) (by omega)
  simp only [Int.toNat_natCast] at h2 h3
  obtain ⟨l, e⟩ := h2
  refine h3 i _ ?_
  rw [e]
  generalize xs.getD j zS = y at l ⊢
  simp [nums, List.getElem?_eq_getElem (show i < y.length by omega)]
set_option maxHeartbeats 40000000 in
set_option maxRecDepth 100000 in
theorem boxes_Looks.walk (ini : List Int) (B : List S29) (L : List (List Int)) (A Al : Option Addr) (cb cl : Nat) (w : World) (hI : IniIs w ini) (hB : Kd.C k29 w A B.length B) (hL : Kd.C kS w Al L.length L) (hcb : B.length ≤ cb) (hcl : L.length ≤ cl) (hn : B.length ≤ 1048576) :
    Calls Tryd.prog 5 #[.slice A B.length cb, .slice Al L.length cl] w fun e w' => Below w.heap.size w w' ∧
      ((e = .returned (.tuple #[.slice none 0 0, .int .i64 3]) ∧ ∃ i, i < B.length ∧ bad L.length i (rd_T29 B (i : Int)) = true) ∨
       ((∀ i, i < B.length → bad L.length i (rd_T29 B (i : Int)) = false) ∧ ∃ v, e = .returned (.tuple #[v, .int .i64 0]) ∧ kS.R 35 w' w.heap.size (fun _ => True) v (looked ini L B B.length))) := by
  have HI := Aside0.mk hI
  have HC := Aside0.mk hB
  have HL := Aside0.mk hL
  have HB := Aside0.mk (Below.refl w.heap.size w)
  obtain ⟨n, hnn⟩ : ∃ n, B.length = n := ⟨_, rfl⟩
  obtain ⟨m, hmm⟩ : ∃ m, L.length = m := ⟨_, rfl⟩
  rw [hnn] at HC hcb hn ⊢
  rw [hmm] at HL hcl ⊢
  have HN := Aside0.mk hn
  have HM := Aside0.mk (Kd.C_max HL.out)
  clear hI hB hL hcb hcl hn hnn hmm
  have HZ := Aside0.mk (Kd.R_nil kS 35 w w.heap.size (fun _ => True))
  go_enter Tryd.func5, Tryd.ntmps5
  go_wp2_with fail
  go_loopw [6, 13] (fun v i wr => ∃ k : Nat, k ≤ n ∧ i = .int .i64 k ∧ Aside0 (∀ j : Nat, j < k → bad m j (rd_T29 B (j : Int)) = false) ∧ Aside0 (kS.R 35 wr w.heap.size (fun _ => True) v (looked ini L B k)) ∧ Aside0 (Below w.heap.size w wr)) (fun _ i _ => n - (intOf i).toNat)
  case atStart => exact ⟨0, Nat.zero_le _, rfl, ⟨fun j hj => absurd hj (by omega)⟩, HZ, HB⟩
  case round =>
    clear HZ HB
    obtain ⟨k, hk, rfl, HBD, KV, HB⟩ := hrel
    by_cases hlt : k < n
    · obtain ⟨ad, A3, c3, rfl, hx0, hx1, hx2, hx3, hx4, _, _⟩ := at_T29 (Kd.C_below HC.out HB.out) (k : Int) (by omega) (by omega)
      obtain ⟨x, hx⟩ : ∃ x, rd_T29 B (k : Int) = x := ⟨_, rfl⟩
      rw [hx] at hx0 hx1 hx2 hx3 hx4
      have HLK : Aside0 (looked ini L B (k + 1) = looked ini L B k ++ [lookOf ini L (looked ini L B k) x]) := ⟨by rw [← hx]; rfl⟩
      have HXX := Aside0.mk hx
      clear hx
      obtain ⟨a0, a1, a2, l3, a4⟩ := x
      obtain ⟨lk, hlk⟩ : ∃ q, looked ini L B k = q := ⟨_, rfl⟩
      have HLL : Aside0 (lk.length = k) := ⟨by rw [← hlk]; exact looked_length _ _ _ _⟩
      rw [hlk] at KV HLK
      clear hlk
      obtain ⟨q1, e0⟩ : ∃ q, decide (a1 < -1) = q := ⟨_, rfl⟩
      obtain ⟨q2, e1⟩ : ∃ q, decide ((m : Int) ≤ a1) = q := ⟨_, rfl⟩
      obtain ⟨b1, e2⟩ : ∃ q, ((k : Int) == 0) = q := ⟨_, rfl⟩
      obtain ⟨b2, e3⟩ : ∃ q, (a2 == -1) = q := ⟨_, rfl⟩
      obtain ⟨q4, e4⟩ : ∃ q, decide (a2 < -1) = q := ⟨_, rfl⟩
      obtain ⟨q5, e5⟩ : ∃ q, decide ((k : Int) ≤ a2) = q := ⟨_, rfl⟩
      obtain ⟨q6, e6⟩ : ∃ q, decide (a1 < 0) = q := ⟨_, rfl⟩
      obtain ⟨bd, hbd⟩ : ∃ q, bad m k ⟨a0, a1, a2, l3, a4⟩ = q := ⟨_, rfl⟩
      have HBAD : Aside0 (bd = (q1 || q2 || (b1 != b2) || q4 || q5 || (b1 && q6))) := ⟨by rw [← hbd]; unfold bad; simp only; rw [e0, e1, e2, e3, e4, e5, e6]⟩
      have HBQ := Aside0.mk hbd
      clear hbd
      simp only [Int.toNat_natCast] at hx0 hx1 hx2 hx3 hx4
      go_upto_region 5 with (first | ((with_reducible refine gate_dst (N := 8) rfl ?_); refine box_event rfl (N := 8) rfl (cs := #[.int .i64 0, .int .i64 0, .int .i64 0, .slice none 0 0, .string ⟨#[]⟩]) (t := 29) (by first | (go_simp; done) | (go_simp; rfl)) ?_; intro gx hgx w3 hbx hb; have KX0 := Aside0.mk hbx; have HGX : Aside0 (wr.heap.size ≤ gx) := ⟨by omega⟩; have BX := Aside0.mk hb; clear hgx hbx hb) | ((with_reducible refine gate_store (t := 29) (p := 8) rfl ?_); refine store_event (t := 29) (p := 8) (w1 := w3.setCells gx 0 (#[.int .i64 a0, .int .i64 a1, .int .i64 a2, .slice A3 l3.length c3, .string a4] : Array Value).toList) rfl rfl rfl (store_run_at 29 (.tmp 8) (.tmp 17) gx 0 #[.int .i64 a0, .int .i64 a1, .int .i64 a2, .slice A3 l3.length c3, .string a4] rfl rfl rfl (there_row KX0.out _ (Nat.le_refl 5)) (by kernel_rfl) (all_oneCell_toArray (cs := [.int .i64 a0, .int .i64 a1, .int .i64 a2, .slice A3 l3.length c3, .string a4]) (by intro v hv; simp only [List.mem_cons, List.not_mem_nil, or_false] at hv; rcases hv with rfl | rfl | rfl | rfl | rfl <;> rfl))) ?_; intro w4 hw3; have KX : Aside0 (w4.heap[gx]? = some (.cells #[.int .i64 a0, .int .i64 a1, .int .i64 a2, .slice A3 l3.length c3, .string a4] 29 (0, 0))) := ⟨by rw [hw3]; exact sets_row KX0.out rfl⟩; have BX3 : Aside0 (Below wr.heap.size wr w4) := ⟨by rw [hw3]; exact sets_below HGX.out _ 0 _ BX.out⟩; clear hw3; have HB4 := Aside0.mk (below_step HB.out BX3.out); have KV4 := Aside0.mk (Kd.R_below KV.out BX3.out); have cx1 : w4.cell? ⟨gx, 1, none⟩ = some (.int .i64 a1) := (blk_cell KX.out 1).trans rfl; have cx2 : w4.cell? ⟨gx, 2, none⟩ = some (.int .i64 a2) := (blk_cell KX.out 2).trans rfl))
      clear hx0 hx1 hx2 hx3 hx4
      go_cut [55] (fun s_ wx => s_ = .bool bd ∧ Aside0 (Below w.heap.size w wx) ∧ Aside0 (wx.heap[gx]? = some (.cells #[.int .i64 a0, .int .i64 a1, .int .i64 a2, .slice A3 l3.length c3, .string a4] 29 (0, 0))) ∧ Aside0 (kS.R 35 wx w.heap.size (fun _ => True) u6 lk))
      case first => as_aux_lemma =>
        cases q1
        case true => (go_wp2; go_meet; (case rel => exact ⟨by rw [HBAD.out]; rfl, HB4, KX, KV4⟩))
        cases q2
        case true => (go_wp2; go_meet; (case rel => exact ⟨by rw [HBAD.out]; rfl, HB4, KX, KV4⟩))
        cases b1
        case false =>
          cases b2
          case true => (go_wp2; go_meet; (case rel => exact ⟨by rw [HBAD.out]; rfl, HB4, KX, KV4⟩))
          cases q4
          case true => (go_wp2; go_meet; (case rel => exact ⟨by rw [HBAD.out]; rfl, HB4, KX, KV4⟩))
          cases q5
          case true => (go_wp2; go_meet; (case rel => exact ⟨by rw [HBAD.out]; rfl, HB4, KX, KV4⟩))
          case false => (go_wp2; go_meet; (case rel => exact ⟨by rw [HBAD.out]; rfl, HB4, KX, KV4⟩))
        cases b2
        case false => (go_wp2; go_meet; (case rel => exact ⟨by rw [HBAD.out]; rfl, HB4, KX, KV4⟩))
        cases q4
        case true => (go_wp2; go_meet; (case rel => exact ⟨by rw [HBAD.out]; rfl, HB4, KX, KV4⟩))
        cases q5
        case true => (go_wp2; go_meet; (case rel => exact ⟨by rw [HBAD.out]; rfl, HB4, KX, KV4⟩))
        cases q6
        case true => (go_wp2; go_meet; (case rel => exact ⟨by rw [HBAD.out]; rfl, HB4, KX, KV4⟩))
        case false => (go_wp2; go_meet; (case rel => exact ⟨by rw [HBAD.out]; rfl, HB4, KX, KV4⟩))
      case rest =>
        clear HB KV KX HB4 KV4 cx1 cx2 KX0 HGX BX BX3
        obtain ⟨rfl, HB, KX, KV⟩ := hcut
        go_upto_if 55 with fail
        cases bd
        case true =>
          go_wp2
          go_ret2
          exact ⟨HB.out, .inl ⟨rfl, k, hlt, by rw [HXX.out]; exact HBQ.out⟩⟩
        have HBD1 : Aside0 (∀ j : Nat, j < k + 1 → bad m j (rd_T29 B (j : Int)) = false) := ⟨fun j hj => by by_cases e : j = k; (· subst e; rw [HXX.out]; exact HBQ.out); (· exact HBD.out j (by omega))⟩
        have HF : Aside0 (false = (q1 || q2 || (b1 != b2) || q4 || q5 || (b1 && q6))) := HBAD
        have cx1 : wc.cell? ⟨gx, 1, none⟩ = some (.int .i64 a1) := (blk_cell KX.out 1).trans rfl
        by_cases h7 : 0 ≤ a1
        · obtain ⟨j, rfl⟩ := Int.eq_ofNat_of_zero_le h7
          have hj : j < m := by have h := HF.out; cases q2; (· have := of_decide_eq_false e1; omega); (· cases q1 <;> simp at h)
          have d7 : decide (0 ≤ (j : Int)) = true := decide_eq_true (by omega)
          clear e0 e1 e2 e3 e4 e5 e6 h7 HBAD HF
          obtain ⟨al, cs, rfl, hcs, hK, hcl⟩ := Kd.C_get (Kd.C_below HL.out HB.out) zS (j : Int) (by omega) (by omega)
          simp only [Int.toNat_natCast] at hK hcl
          have HLO : Aside0 (lookOf ini L lk ⟨a0, (j : Int), a2, l3, a4⟩ = L.getD j zS) := ⟨by unfold lookOf; simp only; rw [if_pos (by omega), Int.toNat_natCast]⟩
          rw [HLO.out] at HLK
          clear HLO
          obtain ⟨st, hst⟩ : ∃ q, L.getD j zS = q := ⟨_, rfl⟩
          rw [hst] at hK HLK
          clear hst
          have HCS := Aside0.mk hcs
          have HKS := Aside0.mk hK
          have HCL : Aside0 (∀ i u, cs[i]? = some u → wc.cell? ((al.add (j * 118)).add i) = some u) := ⟨fun i u hu => by rw [Go.Deep.add_add]; exact hcl i u hu⟩
          clear hcs hK hcl
          go_wp2_with (first | ((with_reducible refine gate_dst (N := 64) rfl ?_); refine Kd.event_run (v := .agg cs.toArray) rfl (load_whole 35 (.tmp 63) (al.add (j * 118)) cs 59 32 rfl rfl HCL.out Tryd.underlying35 (by rw [HCS.out]; exact size35)) ?_) | ((with_reducible refine gate_dst (N := 65) rfl ?_); refine Kd.event_run (v := .slice (some ⟨wc.heap.size, 0, none⟩) 1 1) rfl (build_one (.tmp 64) cs.toArray rfl rfl (by rw [List.size_toArray, HCS.out]; rfl)) ?_) | ((with_reducible refine gate_builtin (b := .append) (xs := #[.tmp 59, .tmp 65]) rfl ?_); at_builtin; refine Kd.R_append kS (w0 := w) w.heap.size rfl (.tmp 59) (.tmp 65) 23 35 (.agg (nums .i64 zS).toArray) 944 rfl Tryd.underlying23 info35 rfl (by decide) (by decide) _ lk st cs (fun _ => True) (fun _ => False) rfl rfl ?aP (fun _ hk => hk.elim) ?aF ?aO ?aB ?aS ?aL ?_; (case aP => exact HKS.out); (case aF => exact (fun _ _ => trivial)); (case aB => exact HB.out); (case aO => exact KV.out); (case aS => exact HB.out.size); (case aL => have h1 := HLL.out; have h2 := HN.out; omega); intro v9 w9 ho hb hg hat; have KV9 := Aside0.mk ho; have HB9 := Aside0.mk hb; clear ho hb hg hat))
          rw [← HLK.out] at KV9
          go_roundw
          case rel => have hn_ := HN.out; have hw : wrap64 ((k : Int) + 1) = ((k + 1 : Nat) : Int) := (by unfold wrap64; omega); exact ⟨k + 1, by omega, by rw [hw], HBD1, KV9, HB9⟩
          case measure => have hn_ := HN.out; have hw : wrap64 ((k : Int) + 1) = ((k + 1 : Nat) : Int) := (by unfold wrap64; omega); rw [hw]; simp only [intOf, Int.toNat_natCast]; omega
        · have d7 : decide (0 ≤ a1) = false := decide_eq_false h7
          obtain ⟨j, hj1, hj⟩ : ∃ j : Nat, a2 = (j : Int) ∧ j < k := by
            have h := HF.out
            have h6 : q6 = true := by rw [← e6]; exact decide_eq_true (by omega)
            rw [h6] at h
            have hb1 : b1 = false := by cases b1; (· rfl); (· simp at h)
            rw [hb1] at h
            have hb2 : b2 = false := by cases b2; (· rfl); (· simp at h)
            have h4 : q4 = false := by cases q4; (· rfl); (· simp at h)
            have h5 : q5 = false := by cases q5; (· rfl); (· simp at h)
            rw [hb2] at e3
            rw [h4] at e4
            rw [h5] at e5
            have n3 : ¬ a2 = -1 := beq_eq_false_iff_ne.mp e3
            have n4 := of_decide_eq_false e4
            have n5 := of_decide_eq_false e5
            exact ⟨a2.toNat, by omega, by omega⟩
          subst hj1
          have HXW : Aside0 (gx < wc.heap.size) := ⟨blk_lt KX.out⟩
          have HLO : Aside0 (lookOf ini L lk ⟨a0, a1, (j : Int), l3, a4⟩ = mk1 ini (lk.getD j zS) 59) := ⟨by unfold lookOf; simp only; rw [if_neg h7, Int.toNat_natCast]⟩
          rw [HLO.out] at HLK
          clear e0 e1 e2 e3 e4 e5 e6 h7 HBAD HF HLO
          obtain ⟨par, hpar⟩ : ∃ q, lk.getD j zS = q := ⟨_, rfl⟩
          rw [hpar] at HLK
          have HPAR := Aside0.mk hpar
          clear hpar
          obtain ⟨gv, cv, hv, _, _⟩ := Kd.R_form KV.out (by have := HLL.out; omega)
          rw [HLL.out] at hv
          subst hv
          have KW : Aside0 (kS.R 35 wc w.heap.size (fun q => q < wc.heap.size) (.slice (some ⟨gv, 0, none⟩) k cv) lk) := ⟨⟨fun q hq => Kd.R_lt KV.out q hq, KV.out.2⟩⟩
          go_wp2_with ((with_reducible refine gate_dst (N := 9) rfl ?_); refine box_event rfl (N := 9) rfl (cs := (nums .i64 zS).toArray) (t := 35) (by first | (go_simp; done) | (go_simp; rfl)) ?_; intro gs hgs w5 hbx hb; have KS5 := Aside0.mk hbx; have HGS : Aside0 (w.heap.size ≤ gs ∧ wc.heap.size ≤ gs) := ⟨by have := HB.out.size; omega⟩; have HB5 := Aside0.mk (below_step HB.out hb); have KX5 := Aside0.mk (blk_below KX.out hb); have KV5 := Aside0.mk (Kd.R_below KW.out hb); clear hgs hbx hb)
          clear HB KX KV KW cx1
          go_loopw [67] (fun p wr => ∃ t : Nat, t ≤ 59 ∧ p = .int .i64 t ∧ Aside0 (Below w.heap.size w wr) ∧ Aside0 (wr.heap[gx]? = some (.cells #[.int .i64 a0, .int .i64 a1, .int .i64 (j : Int), .slice A3 l3.length c3, .string a4] 29 (0, 0))) ∧ Aside0 (kS.R 35 wr w.heap.size (fun q => q < wc.heap.size) (.slice (some ⟨gv, 0, none⟩) k cv) lk) ∧ Aside0 (wr.heap[gs]? = some (.cells (nums .i64 (mk1 ini par t)).toArray 35 (0, 0)))) (fun p _ => 59 - (intOf p).toNat)
          case atStart => exact ⟨0, Nat.zero_le _, rfl, HB5, KX5, KV5, KS5⟩
          case round =>
            clear HB5 KX5 KV5 KS5
            obtain ⟨t, ht, rfl, HB, KX, KW, KS⟩ := hrel
            by_cases ht2 : t < 59
            · obtain ⟨s, hs⟩ : ∃ q, mk1 ini par t = q := ⟨_, rfl⟩
              have HSL : Aside0 (s.length = 118) := ⟨by rw [← hs]; exact mk1_length _ _ _⟩
              obtain ⟨ih, hih⟩ : ∃ q, inh t = q := ⟨_, rfl⟩
              have HPK : Aside0 (mk1 ini par (t + 1) = if ih then (s.set (t * 2) (par.getD (t * 2) 0)).set (t * 2 + 1) (par.getD (t * 2 + 1) 0) else (s.set (t * 2) (ini.getD (t * 2) 0)).set (t * 2 + 1) (ini.getD (t * 2 + 1) 0)) := ⟨by rw [← hs, ← hih]; rfl⟩
              have HIH := Aside0.mk hih
              rw [hs] at KS
              clear hs hih
              have NGX : Aside0 (gx ≠ gs) := ⟨by have := HXW.out; have := HGS.out.2; omega⟩
              have HSZ : Aside0 ((nums .i64 s).toArray.size = 118) := ⟨by rw [List.size_toArray, nums_len, HSL.out]⟩
              cases ih
              · go_wp2_with (first | (go_at_call 8; go_loud (refine (style_Inherits.calls (t : Int) (inh t) _ (inh_f t)).mono ?_); rw [HIH.out]; rintro e w7 ⟨rfl, hd⟩; have hb := hd.below; clear hd; have HB7 := Aside0.mk (below_step HB.out hb); have KX7 := Aside0.mk (blk_below KX.out hb); have KW7 := Aside0.mk (Kd.R_below KW.out hb); have KS7 := Aside0.mk (blk_below KS.out hb); have cx2 : w7.cell? ⟨gx, 2, none⟩ = some (.int .i64 (j : Int)) := (blk_cell KX7.out 2).trans rfl; have cv0 : w7.cell? ⟨gv, j * 118 + t * 2, none⟩ = some (.int .i64 (par.getD (t * 2) 0)) := (out_cell KW7.out j (by omega) (t * 2) (by omega)).trans (by rw [HPAR.out]); have cv1 : w7.cell? ⟨gv, j * 118 + t * 2 + 1, none⟩ = some (.int .i64 (par.getD (t * 2 + 1) 0)) := (out_cell KW7.out j (by omega) (t * 2 + 1) (by omega)).trans (by rw [HPAR.out]); clear hb) | (go_at_call 7; (with_reducible refine (style_Initial.calls ini t ht2 _ (HI.out.below HB7.out)).mono ?_); rintro e w8 ⟨rfl, hb⟩; have HB8 := Aside0.mk (below_step HB7.out hb); have KX8 := Aside0.mk (blk_below KX7.out hb); have KW8 := Aside0.mk (Kd.R_below KW7.out hb); have KS8 := Aside0.mk (blk_below KS7.out hb); clear hb) | ((with_reducible refine gate_store (t := 32) (p := 84) rfl ?_); (refine store_event (t := 32) (p := 84) (w1 := w8.setCells gs (t * 2) (#[.int .i64 (ini.getD (t * 2) 0), .int .i64 (ini.getD (t * 2 + 1) 0)] : Array Value).toList) rfl rfl rfl (store_run_at 32 (.tmp 84) (.tmp 83) gs (t * 2) #[.int .i64 (ini.getD (t * 2) 0), .int .i64 (ini.getD (t * 2 + 1) 0)] rfl rfl rfl (there_blk KS8.out (by rw [HSZ.out]; show t * 2 + 2 ≤ 118; omega)) (by kernel_rfl) (all_oneCell_toArray (cs := [.int .i64 (ini.getD (t * 2) 0), .int .i64 (ini.getD (t * 2 + 1) 0)]) (by intro v hv; simp only [List.mem_cons, List.not_mem_nil, or_false] at hv; rcases hv with rfl | rfl <;> rfl))) ?_); intro w9 hw9; have HB9 : Aside0 (Below w.heap.size w w9) := ⟨by rw [hw9]; exact sets_below HGS.out.1 _ _ _ HB8.out⟩; have KX9 := Aside0.mk ((congrArg (fun W : World => W.heap[gx]?) hw9).trans ((sets_far NGX.out _ _ _).trans KX8.out)); have KW9 : Aside0 (kS.R 35 w9 w.heap.size (fun q => q < wc.heap.size) (.slice (some ⟨gv, 0, none⟩) k cv) lk) := ⟨by rw [hw9]; exact Kd.R_far (p := ⟨gs, t * 2 + 1, none⟩) (Kd.R_far (p := ⟨gs, t * 2, none⟩) KW8.out (fun q hq => by have := HGS.out.2; show q ≠ gs; omega) _) (fun q hq => by have := HGS.out.2; show q ≠ gs; omega) _⟩; have KS9 : Aside0 (w9.heap[gs]? = some (.cells (nums .i64 ((s.set (t * 2) ((ini.getD (t * 2) 0))).set (t * 2 + 1) ((ini.getD (t * 2 + 1) 0)))).toArray 35 (0, 0))) := ⟨by rw [hw9]; exact blk_put (blk_put KS8.out (t * 2) _ (nums_set _ _ _)) (t * 2 + 1) _ (nums_set _ _ _)⟩; clear hw9))
                go_roundw
                case rel => exact ⟨t + 1, by omega, by go_num, HB9, KX9, KW9, ⟨by rw [HPK.out]; exact KS9.out⟩⟩
                case measure => simp [intOf]; omega
              · go_wp2_with (first | (go_at_call 8; go_loud (refine (style_Inherits.calls (t : Int) (inh t) _ (inh_f t)).mono ?_); rw [HIH.out]; rintro e w7 ⟨rfl, hd⟩; have hb := hd.below; clear hd; have HB7 := Aside0.mk (below_step HB.out hb); have KX7 := Aside0.mk (blk_below KX.out hb); have KW7 := Aside0.mk (Kd.R_below KW.out hb); have KS7 := Aside0.mk (blk_below KS.out hb); have cx2 : w7.cell? ⟨gx, 2, none⟩ = some (.int .i64 (j : Int)) := (blk_cell KX7.out 2).trans rfl; have cv0 : w7.cell? ⟨gv, j * 118 + t * 2, none⟩ = some (.int .i64 (par.getD (t * 2) 0)) := (out_cell KW7.out j (by omega) (t * 2) (by omega)).trans (by rw [HPAR.out]); have cv1 : w7.cell? ⟨gv, j * 118 + t * 2 + 1, none⟩ = some (.int .i64 (par.getD (t * 2 + 1) 0)) := (out_cell KW7.out j (by omega) (t * 2 + 1) (by omega)).trans (by rw [HPAR.out]); clear hb) | ((with_reducible refine gate_store (t := 32) (p := 80) rfl ?_); (refine store_event (t := 32) (p := 80) (w1 := w7.setCells gs (t * 2) (#[.int .i64 (par.getD (t * 2) 0), .int .i64 (par.getD (t * 2 + 1) 0)] : Array Value).toList) rfl rfl rfl (store_run_at 32 (.tmp 80) (.tmp 79) gs (t * 2) #[.int .i64 (par.getD (t * 2) 0), .int .i64 (par.getD (t * 2 + 1) 0)] rfl rfl rfl (there_blk KS7.out (by rw [HSZ.out]; show t * 2 + 2 ≤ 118; omega)) (by kernel_rfl) (all_oneCell_toArray (cs := [.int .i64 (par.getD (t * 2) 0), .int .i64 (par.getD (t * 2 + 1) 0)]) (by intro v hv; simp only [List.mem_cons, List.not_mem_nil, or_false] at hv; rcases hv with rfl | rfl <;> rfl))) ?_); intro w9 hw9; have HB9 : Aside0 (Below w.heap.size w w9) := ⟨by rw [hw9]; exact sets_below HGS.out.1 _ _ _ HB7.out⟩; have KX9 := Aside0.mk ((congrArg (fun W : World => W.heap[gx]?) hw9).trans ((sets_far NGX.out _ _ _).trans KX7.out)); have KW9 : Aside0 (kS.R 35 w9 w.heap.size (fun q => q < wc.heap.size) (.slice (some ⟨gv, 0, none⟩) k cv) lk) := ⟨by rw [hw9]; exact Kd.R_far (p := ⟨gs, t * 2 + 1, none⟩) (Kd.R_far (p := ⟨gs, t * 2, none⟩) KW7.out (fun q hq => by have := HGS.out.2; show q ≠ gs; omega) _) (fun q hq => by have := HGS.out.2; show q ≠ gs; omega) _⟩; have KS9 : Aside0 (w9.heap[gs]? = some (.cells (nums .i64 ((s.set (t * 2) ((par.getD (t * 2) 0))).set (t * 2 + 1) ((par.getD (t * 2 + 1) 0)))).toArray 35 (0, 0))) := ⟨by rw [hw9]; exact blk_put (blk_put KS7.out (t * 2) _ (nums_set _ _ _)) (t * 2 + 1) _ (nums_set _ _ _)⟩; clear hw9))
                go_roundw
                case rel => exact ⟨t + 1, by omega, by go_num, HB9, KX9, KW9, ⟨by rw [HPK.out]; exact KS9.out⟩⟩
                case measure => simp [intOf]; omega
            · obtain rfl : t = 59 := by omega
              obtain ⟨st, hst⟩ : ∃ q, mk1 ini par 59 = q := ⟨_, rfl⟩
              have HKS : Aside0 (st.length = 118 ∧ nums .i64 st = nums .i64 st) := ⟨⟨by rw [← hst]; exact mk1_length _ _ _, rfl⟩⟩
              rw [hst] at HLK KS
              clear hst
              have KV : Aside0 (kS.R 35 wr w.heap.size (fun _ => True) (.slice (some ⟨gv, 0, none⟩) k cv) lk) := ⟨Kd.R_mono KW.out (fun _ _ => trivial)⟩
              go_wp2_with (first | ((with_reducible refine gate_dst (N := 87) rfl ?_); refine Kd.event_run (v := .agg (nums .i64 st).toArray) rfl (load_whole 35 (.tmp 9) ⟨gs, 0, none⟩ (nums .i64 st) 59 32 rfl rfl (fun i v hv => by rw [add_plain, blk_cell KS.out]; simpa using hv) Tryd.underlying35 (by rw [nums_len, HKS.out.1]; exact size35)) ?_) | ((with_reducible refine gate_dst (N := 88) rfl ?_); refine Kd.event_run (v := .slice (some ⟨wr.heap.size, 0, none⟩) 1 1) rfl (build_one (.tmp 87) (nums .i64 st).toArray rfl rfl (by rw [List.size_toArray, nums_len, HKS.out.1])) ?_) | ((with_reducible refine gate_builtin (b := .append) (xs := #[.tmp 86, .tmp 88]) rfl ?_); at_builtin; refine Kd.R_append kS (w0 := w) w.heap.size rfl (.tmp 86) (.tmp 88) 23 35 (.agg (nums .i64 zS).toArray) 944 rfl Tryd.underlying23 info35 rfl (by decide) (by decide) _ lk st (nums .i64 st) (fun _ => True) (fun _ => False) rfl rfl ?aP (fun _ hk => hk.elim) ?aF ?aO ?aB ?aS ?aL ?_; (case aP => exact HKS.out); (case aF => exact (fun _ _ => trivial)); (case aB => exact HB.out); (case aO => exact KV.out); (case aS => exact HB.out.size); (case aL => have h1 := HLL.out; have h2 := HN.out; omega); intro v9 w9 ho hb hg hat; have KV9 := Aside0.mk ho; have HB9 := Aside0.mk hb; clear ho hb hg hat))
              rw [← HLK.out] at KV9
              go_roundw
              case rel => have hn_ := HN.out; have hw : wrap64 ((k : Int) + 1) = ((k + 1 : Nat) : Int) := (by unfold wrap64; omega); exact ⟨k + 1, by omega, by rw [hw], HBD1, KV9, HB9⟩
              case measure => have hn_ := HN.out; have hw : wrap64 ((k : Int) + 1) = ((k + 1 : Nat) : Int) := (by unfold wrap64; omega); rw [hw]; simp only [intOf, Int.toNat_natCast]; omega
    · obtain rfl : n = k := by omega
      go_wp2
      go_ret2
      exact ⟨HB.out, .inr ⟨HBD.out, _, rfl, KV.out⟩⟩
end Go.Proofs.YtmaalgnedojfjaaDoor.PBoxesLooks
