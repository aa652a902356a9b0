/- flex.Mains, walked by hand. -/
import Derived.Test.YtaejmgdpnnhpmaaFlexTurn
namespace Go.Proofs.Ytaejmgdpnnhpmaa.QFlex
open Go.RowKit Go.Proofs.YtaejmgdpnnhpmaaW.PrintWords Go.Proofs.YtaejmgdpnnhpmaaW.PrintLast Go.Proofs.YtaejmgdpnnhpmaaW.PrintMore
attribute [local go_sem] max2_int min2_int max_two min_two max_three min_three max_four min_four
set_option linter.unusedVariables false
set_option linter.unusedSimpArgs false
/-- Is an item settled at once? -/
def atOnce (gr : Bool) (x : S99) : Bool := (facv gr x == 0) || ((gr && decide (x.f0.f0 > x.f1)) || (!gr && decide (x.f0.f0 < x.f1)))
def begun (gr : Bool) (xs : List S99) : Nat → List S99
  | 0 => xs
  | k + 1 => if atOnce gr (rd_T99 xs k) then (begun gr xs k).set k ⟨(rd_T99 xs k).f0, (rd_T99 xs k).f1, true, (rd_T99 xs k).f1⟩ else begun gr xs k
theorem begun_length (gr : Bool) (xs : List S99) (k : Nat) : (begun gr xs k).length = xs.length := by
  induction k with
  | zero => rfl
  | succ k ih => unfold begun; split <;> simp [ih]
theorem begun_rest (gr : Bool) (xs : List S99) (k j : Nat) (h : k ≤ j) : (begun gr xs k).getD j z99 = xs.getD j z99 := by
  induction k with
  | zero => rfl
  | succ k ih =>
    unfold begun
    split
    · rw [List.getD_eq_getElem?_getD, List.getElem?_set_ne (by omega), ← List.getD_eq_getElem?_getD]
      exact ih (by omega)
    · exact ih (by omega)
def anyOpen (xs : List S99) : Bool := xs.any fun x => !x.f2
def turnF (k : Nat) (room : Int) (gr : Bool) (first : Int) (xs : List S99) : Option (List S99) :=
  (flex_row_now.f k room xs gr).bind fun n => (flex_row_parts.f k room xs gr (freeOf first n.1 (sumTo gr xs xs.length))).bind fun p =>
    if p.1.length = xs.length ∧ n.2 = (room, gr) ∧ p.2 = (room, gr) then some (settled (changes p.1 xs xs.length) (bys p.1 xs xs.length) (turned p.1 xs xs.length) xs.length) else none
def loopF (k0 : Nat) (room : Int) (gr : Bool) (first : Int) : Nat → List S99 → Option (List S99)
  | 0, _ => none
  | k + 1, xs => if anyOpen xs then (turnF k0 room gr first xs).bind (loopF k0 room gr first k) else some xs
theorem turnF_length {k : Nat} {room : Int} {gr : Bool} {first : Int} {xs ys : List S99} (h : turnF k room gr first xs = some ys) : ys.length = xs.length := by
  unfold turnF at h
  obtain ⟨n, _, h⟩ := Option.bind_eq_some_iff.mp h
  obtain ⟨p, _, h⟩ := Option.bind_eq_some_iff.mp h
  split at h
  · obtain rfl := Option.some.inj h
    rw [settled_length, turned_length]
  · cases h
theorem turnF_calls (k_ : Nat) (g gi cap base : Nat) (room first : Int) (xs ys : List S99) (gr : Bool) (w : World)
    (hg : w.heap[g]? = some (cells96 room (some ⟨gi, 0, none⟩) xs.length cap gr)) (hr : k99.R 99 w base (fun k => k < g) (.slice (some ⟨gi, 0, none⟩) xs.length cap) xs) (hl : xs.length ≤ 50) (hne : 0 < xs.length)
    (h : turnF k_ room gr first xs = some ys) :
    Calls Try.prog 71 #[.pointer (some ⟨g, 0, none⟩), .int .i64 first] w fun e w' => e = .returned (.tuple #[]) ∧ w'.heap[g]? = some (cells96 room (some ⟨gi, 0, none⟩) xs.length cap gr) ∧
      k99.R 99 w' base (fun k => k < g) (.slice (some ⟨gi, 0, none⟩) xs.length cap) ys ∧ Below base w w' := by
  unfold turnF at h
  obtain ⟨⟨n, n2⟩, h1, h3⟩ := Option.bind_eq_some_iff.mp h
  clear h
  obtain ⟨⟨p, p2⟩, h2, h⟩ := Option.bind_eq_some_iff.mp h3
  clear h3
  split at h
  · rename_i hc
    obtain ⟨hp, hn, hp2⟩ := hc
    simp only at hp hn hp2 h h2
    subst hn; subst hp2
    obtain rfl := Option.some.inj h
    exact turn_calls k_ g gi cap base room first n xs gr p w hg hr hl hne h1 h2 hp
  · cases h
theorem indexOpen_f (xs : List S99) : ∀ (d k : Nat) (i : Nat), xs.length - i = d → d < k → i ≤ xs.length → xs.length ≤ 50 → ∃ j, flex_indexOpen.l0 k xs (xs.length : Int) i = some j ∧ (decide (j ≥ 0)) = (xs.drop i).any (fun x => !x.f2)
  | 0, k, i, hd, hk, hi, hl => by
    obtain ⟨k, rfl⟩ : ∃ m, k = m + 1 := ⟨k - 1, by omega⟩
    refine ⟨-1, ?_, ?_⟩
    · simp only [flex_indexOpen.l0]
      rw [if_neg (by omega)]
    · rw [List.drop_of_length_le (by omega)]; rfl
  | d + 1, k, i, hd, hk, hi, hl => by
    obtain ⟨k, rfl⟩ : ∃ m, k = m + 1 := ⟨k - 1, by omega⟩
    have hlt : i < xs.length := by omega
    have hx : rd_T99 xs i = xs[i] := by show xs.getD (i : Int).toNat z99 = _; rw [Int.toNat_natCast, List.getD_eq_getElem?_getD, List.getElem?_eq_getElem hlt]; rfl
    rw [List.drop_eq_getElem_cons hlt, List.any_cons]
    simp only [flex_indexOpen.l0]
    rw [if_pos (by omega), if_pos (by omega), if_pos (by omega)]
    unfold flex_Mains_fn2.f
    rw [hx]
    have hw : wrap64 ((i : Int) + 1) = ((i + 1 : Nat) : Int) := by unfold wrap64; omega
    cases h : xs[i].f2
    · refine ⟨i, ?_, ?_⟩
      · simp
      · simp
    · obtain ⟨j, h1, h2⟩ := indexOpen_f xs d k (i + 1) (by omega) (by omega) (by omega) hl
      refine ⟨j, ?_, by rw [h2]; rfl⟩
      simpa [hw] using h1
theorem containsOpen_f (xs : List S99) (k : Nat) (hk : 50 < k) (hl : xs.length ≤ 50) : flex_containsOpen.f k xs = some (anyOpen xs) := by
  obtain ⟨j, h1, h2⟩ := indexOpen_f xs xs.length k 0 (by omega) (by omega) (by omega) hl
  unfold flex_containsOpen.f flex_indexOpen.f
  rw [show (0 : Int) = ((0 : Nat) : Int) from rfl, h1]
  show some (decide (j ≥ 0)) = _
  rw [h2]
  rfl

theorem take_told (ys : List S99) (k : Nat) (h : k < ys.length) : (ys.take (k + 1)).map (fun x => mx 0 x.f3) = (ys.take k).map (fun x => mx 0 x.f3) ++ [mx 0 (rd_T99 ys k).f3] := by
  rw [List.take_succ_eq_append_getElem h, List.map_append]
  congr 1
  show [mx 0 (ys[k]).f3] = [mx 0 (ys.getD (k : Int).toNat z99).f3]
  rw [Int.toNat_natCast, List.getD_eq_getElem?_getD, List.getElem?_eq_getElem h]
  rfl
theorem blk_alloc_ {w : World} {g : Nat} {o : Obj} (h : w.heap[g]? = some o) (p : Obj) : (w.alloc p).heap[g]? = some o := blk_below h (below_alloc (Below.refl _ _) p)
set_option maxHeartbeats 8000000 in
set_option maxRecDepth 100000 in
theorem mains_walk (k_ : Nat) (A0 : Option Addr) (c0 : Nat) (l0 : List S91) (room gap rm n n1 : Int) (gr : Bool) (xs zs : List S99) (w : World) (hr0 : Kd.C k91 w A0 l0.length l0) (hc0 : l0.length ≤ c0) (hl : l0.length ≤ 50) (hk : 50 < k_)
    (hx : flex_items.f k_ l0 = some xs) (hxl : xs.length = l0.length) (hrm : wrap64 (cut room - wrap64 (mx 0 (cut gap) * mx 0 (wrap64 ((l0.length : Int) - 1)))) = rm)
    (hlong : flex_freeLong.f k_ rm xs false = some (n, rm, false)) (hgr : decide (0 < n) = gr) (hnow : flex_row_now.f k_ rm (begun gr xs xs.length) gr = some (n1, rm, gr)) (hloop : loopF k_ rm gr n1 k_ (begun gr xs xs.length) = some zs) :
    Calls Try.prog 28 #[.int .i64 room, .int .i64 gap, .slice A0 l0.length c0] w fun e w' => ∃ v : Value, e = .returned v ∧ Kd.R (Kd.int .i64) 3 w' w.heap.size (fun _ => True) v (zs.map fun x => mx 0 x.f3) ∧ Below w.heap.size w w' := by
  have HC := Aside0.mk hr0
  have HX := Aside0.mk hx
  have HXL := Aside0.mk hxl
  have HLONG := Aside0.mk hlong
  have HNOW := Aside0.mk hnow
  have HLOOP := Aside0.mk hloop
  have HB := Aside0.mk (Below.refl w.heap.size w)
  have HL := Aside0.mk hl
  have HK := Aside0.mk hk
  have HC0 := Aside0.mk hc0
  obtain ⟨q1, hq1⟩ : ∃ q, mx 0 (cut gap) = q := ⟨_, rfl⟩
  have hq1_ : (if 0 < cut gap then cut gap else 0) = q1 := hq1
  obtain ⟨q2, hq2⟩ : ∃ q, mx 0 (wrap64 ((l0.length : Int) - 1)) = q := ⟨_, rfl⟩
  have hlen : wrap64 ((l0.length : Int) - 1) = (l0.length : Int) - 1 := by unfold wrap64; omega
  have hq2_ : (if 0 < (l0.length : Int) - 1 then (l0.length : Int) - 1 else 0) = q2 := by rw [hlen] at hq2; exact hq2
  have hq2n : (if 1 < l0.length then (l0.length : Int) - 1 else 0) = q2 := by rw [← hq2_]; simp only [show (0 < (l0.length : Int) - 1) = (1 < l0.length) by rw [eq_iff_iff]; omega]
  have hq2i : (if 1 < (l0.length : Int) then (l0.length : Int) - 1 else 0) = q2 := by rw [← hq2_]; simp only [show (0 < (l0.length : Int) - 1) = (1 < (l0.length : Int)) by rw [eq_iff_iff]; omega]
  rw [hq1, hq2] at hrm
  clear hr0 hx hxl hlong hnow hloop hl hk hc0 hq1 hq2
  go_enter Try.func28, Try.ntmps28
  go_upto_region 3 with (first | (go_at_call 51; (with_reducible refine (fix_Cut.calls room (cut room) _ (cut_a room)).mono ?_); rintro e w1 ⟨rfl, hb⟩; have HC1 := Aside0.mk (Kd.C_below HC.out hb); have HB1 := Aside0.mk (below_step HB.out hb); clear hb) | (go_at_call 51; (with_reducible refine (fix_Cut.calls gap (cut gap) _ (cut_a gap)).mono ?_); rintro e w2 ⟨rfl, hb⟩; have HC2 := Aside0.mk (Kd.C_below HC1.out hb); have HB2 := Aside0.mk (below_step HB1.out hb); clear hb) | (go_at_call 64; (with_reducible refine (flex_items.calls k_ A0 c0 l0 xs _ HC2.out HC0.out HX.out).mono ?_); rintro e w3 ⟨v0, rfl, hv, hb⟩; have HB3 := Aside0.mk (below_step HB2.out hb); obtain ⟨A, cap, rfl⟩ := Kd.R_slice hv; have KR3 := Aside0.mk hv; have S2 := Aside0.mk HB2.out.size; clear hv hb) | ((with_reducible refine gate_dst (N := 28) rfl ?_); refine box_event rfl (N := 28) rfl (cs := #[.int .i64 rm, .slice A xs.length cap, .bool false]) (t := 96) (by first | (go_simp; done) | (go_simp; rfl)) ?_; intro g hg_ w4 hbx hb; have KG4 : Aside0 (w4.heap[g]? = some (cells96 rm A xs.length cap false)) := ⟨hbx⟩; have KR4 := Aside0.mk (Kd.R_mono (Kd.R_below (Kd.R_mono (Kd.R_bound KR3.out) (ok' := fun q => q < g) (fun q hq => by have := hq.2.2.1; omega)) hb) (fun _ hq => hq)); have HB4 := Aside0.mk (below_step HB3.out hb); have HGB := Aside0.mk (show w.heap.size ≤ g by have := HB3.out.size; omega); have cg1 : w4.cell? ⟨g, 1, none⟩ = some (.slice A xs.length cap) := (blk_cell hbx 1).trans rfl; clear hg_ hbx hb) | (go_at_call 65; (with_reducible refine (long_calls k_ n KG4.out KR4.out HLONG.out).mono ?_); rintro e w5 ⟨rfl, hb⟩; have KG5 := Aside0.mk (blk_below KG4.out hb); have KR5 := Aside0.mk (Kd.R_below KR4.out hb); have HB5 := Aside0.mk (below_step HB4.out hb); have cg2 : w5.cell? ⟨g, 2, none⟩ = some (.bool false) := (blk_cell KG5.out 2).trans rfl; have fg2 := blk_frozen KG5.out 2; have cg1 : w5.cell? ⟨g, 1, none⟩ = some (.slice A xs.length cap) := (blk_cell KG5.out 1).trans rfl; clear hb))
  have KG6 := Aside0.mk (show ((w5.setCell ⟨g, 2, none⟩ (.bool gr))).heap[g]? = some (cells96 rm A xs.length cap gr) from blk_put KG5.out 2 (.bool gr) rfl)
  have KR6 := Aside0.mk (Kd.R_far (p := ⟨g, 2, none⟩) KR5.out (fun q hq => by show q ≠ g; omega) (.bool gr))
  have HB6 := Aside0.mk (HB5.out.setCell (p := ⟨g, 2, none⟩) HGB.out (.bool gr))
  clear cg1 cg2 fg2 hq1_ hq2_ hq2n hq2i hlen hrm hgr
  generalize (w5.setCell ⟨g, 2, none⟩ (.bool gr)) = w6 at KG6 KR6 HB6 ⊢
  have cg1 : w6.cell? ⟨g, 1, none⟩ = some (.slice A xs.length cap) := (blk_cell KG6.out 1).trans rfl
  go_wp2_with fail
  clear cg1
  have hl50 : xs.length ≤ 50 := by have := HXL.out; have := HL.out; omega
  go_loopw [40] (fun i wr => ∃ k : Nat, k ≤ xs.length ∧ i = .int .i64 k ∧ Aside0 ((wr).heap[g]? = some (cells96 rm A xs.length cap gr)) ∧ Aside0 (k99.R 99 wr w2.heap.size (fun q => q < g) (.slice A xs.length cap) (begun gr xs k)) ∧ Aside0 (Below w.heap.size w wr)) (fun i _ => xs.length - (intOf i).toNat)
  case atStart => exact ⟨0, Nat.zero_le _, rfl, KG6, KR6, HB6⟩
  case round =>
    clear KG6 KR6 HB6 KG5 KR5 HB5 KG4 KR4 HB4 KR3 HB3
    obtain ⟨k, hk, rfl, KG, KR, HB⟩ := hrel
    by_cases hlt : k < xs.length
    · skip
      obtain ⟨gi, cap', hv, _, _⟩ := Kd.R_form KR.out (by rw [begun_length]; omega)
      rw [begun_length] at hv
      injection hv with hA _ hcap
      subst hA; subst hcap
      have HGI := Aside0.mk (show gi < g from KR.out.1 gi rfl)
      have HBI := Aside0.mk (show w2.heap.size ≤ gi from Kd.R_base KR.out gi rfl)
      have HGW := Aside0.mk (blk_lt KG.out)
      have hrow : rd_T99 (begun gr xs k) k = rd_T99 xs k := by show (begun gr xs k).getD ((k : Int).toNat) z99 = xs.getD ((k : Int).toNat) z99; rw [Int.toNat_natCast]; exact begun_rest gr xs k k (Nat.le_refl k)
      obtain ⟨x, hx⟩ : ∃ x, rd_T99 xs k = x := ⟨_, rfl⟩
      have hx0 := (row_get KR.out k (by omega) (by omega) 0 _ rfl).1
      rw [hrow] at hx0
      simp only [Int.toNat_natCast, Nat.add_zero, hx] at hx0
      have hx1 := (row_get KR.out k (by omega) (by omega) 1 _ rfl).1
      rw [hrow] at hx1
      simp only [Int.toNat_natCast, Nat.add_zero, hx] at hx1
      have hx2 := (row_get KR.out k (by omega) (by omega) 2 _ rfl).1
      rw [hrow] at hx2
      simp only [Int.toNat_natCast, Nat.add_zero, hx] at hx2
      have hx3 := (row_get KR.out k (by omega) (by omega) 3 _ rfl).1
      rw [hrow] at hx3
      simp only [Int.toNat_natCast, Nat.add_zero, hx] at hx3
      have hx4 := (row_get KR.out k (by omega) (by omega) 4 _ rfl).1
      rw [hrow] at hx4
      simp only [Int.toNat_natCast, Nat.add_zero, hx] at hx4
      have hx5 := (row_get KR.out k (by omega) (by omega) 5 _ rfl).1
      rw [hrow] at hx5
      simp only [Int.toNat_natCast, Nat.add_zero, hx] at hx5
      have hx6 := (row_get KR.out k (by omega) (by omega) 6 _ rfl).1
      rw [hrow] at hx6
      simp only [Int.toNat_natCast, Nat.add_zero, hx] at hx6
      have hx7 := (row_get KR.out k (by omega) (by omega) 7 _ rfl).1
      rw [hrow] at hx7
      simp only [Int.toNat_natCast, Nat.add_zero, hx] at hx7
      have hx8 := (row_get KR.out k (by omega) (by omega) 8 _ rfl).1
      rw [hrow] at hx8
      simp only [Int.toNat_natCast, Nat.add_zero, hx] at hx8
      have HRX := Aside0.mk (hrow.trans hx)
      have HS : Aside0 (begun gr xs (k + 1) = if atOnce gr x then (begun gr xs k).set k ⟨x.f0, x.f1, true, x.f1⟩ else begun gr xs k) := ⟨by rw [← hx]; rfl⟩
      have FC := fun (w : World) hg hr => factor_calls (g := g) (c := cap) (base := w2.heap.size) (room := rm) (A := some ⟨gi, 0, none⟩) (gr := gr) (xs := begun gr xs k) (w := w) x hg hr
      rw [begun_length] at FC
      clear hx hrow
      obtain ⟨⟨a0, a1, a2, a3, a4, a5⟩, a6, a7, a8⟩ := x
      obtain ⟨fv, hfv⟩ : ∃ fv, facv gr ⟨⟨a0, a1, a2, a3, a4, a5⟩, a6, a7, a8⟩ = fv := ⟨_, rfl⟩
      rw [hfv] at FC
      have HAT : Aside0 (atOnce gr ⟨⟨a0, a1, a2, a3, a4, a5⟩, a6, a7, a8⟩ = ((fv == 0) || ((gr && decide (a6 < a0)) || (!gr && decide (a0 < a6))))) := ⟨by rw [← hfv]; rfl⟩
      clear hfv
      unfold enc9 at FC
      have FCA := Aside0.mk FC
      clear FC
      simp only at hx0 hx1 hx2 hx3 hx4 hx5 hx6 hx7 hx8 HS
      have hgc : wr.cell? ⟨g, 2, none⟩ = some (.bool gr) := (blk_cell KG.out 2).trans rfl
      clear hgc
      by_cases h0 : fv = 0
      · have e0 : (fv == 0) = true := beq_iff_eq.mpr h0
        clear h0
        have HT : Aside0 (atOnce gr ⟨⟨a0, a1, a2, a3, a4, a5⟩, a6, a7, a8⟩ = true) := ⟨by rw [HAT.out, e0]; first | rfl | simp⟩
        rw [HT.out] at HS
        go_wp2_with (first | ((with_reducible refine gate_dst (N := 9) rfl ?_); refine box_event rfl (N := 9) rfl (cs := #[.int .i64 0, .int .i64 0, .int .i64 0, .int .i64 0, .int .i64 0, .int .i64 0, .int .i64 0, .bool false, .int .i64 0]) (t := 99) (by first | (go_simp; done) | (go_simp; rfl)) ?_; intro gx hgx w3 hbx hb; have KX0 := Aside0.mk hbx; have HGX : Aside0 (wr.heap.size ≤ gx) := ⟨by omega⟩; have BX := Aside0.mk hb; clear hgx hbx hb) | ((with_reducible refine gate_store (t := 99) (p := 9) rfl ?_); refine store_event (t := 99) (p := 9) (w1 := w3.setCells gx 0 (#[.int .i64 a0, .int .i64 a1, .int .i64 a2, .int .i64 a3, .int .i64 a4, .int .i64 a5, .int .i64 a6, .bool a7, .int .i64 a8] : Array Value).toList) rfl rfl rfl (store_run 99 (.tmp 9) (.tmp 44) gx #[.int .i64 a0, .int .i64 a1, .int .i64 a2, .int .i64 a3, .int .i64 a4, .int .i64 a5, .int .i64 a6, .bool a7, .int .i64 a8] rfl rfl rfl (there_row KX0.out _ (Nat.le_refl 9)) (by kernel_rfl) (all_oneCell_toArray (cs := [.int .i64 a0, .int .i64 a1, .int .i64 a2, .int .i64 a3, .int .i64 a4, .int .i64 a5, .int .i64 a6, .bool a7, .int .i64 a8]) (by intro v hv; simp only [List.mem_cons, List.not_mem_nil, or_false] at hv; rcases hv with rfl | rfl | rfl | rfl | rfl | rfl | rfl | rfl | rfl <;> rfl))) ?_; intro w4 hw3; have KX : Aside0 (w4.heap[gx]? = some (.cells #[.int .i64 a0, .int .i64 a1, .int .i64 a2, .int .i64 a3, .int .i64 a4, .int .i64 a5, .int .i64 a6, .bool a7, .int .i64 a8] 99 (0, 0))) := ⟨by rw [hw3]; exact sets_row KX0.out rfl⟩; have BX3 : Aside0 (Below wr.heap.size wr w4) := ⟨by rw [hw3]; exact sets_below HGX.out _ 0 _ BX.out⟩; clear hw3; have cx0 : w4.cell? ⟨gx, 0, none⟩ = some (.int .i64 a0) := (blk_cell KX.out 0).trans rfl; have cx1 : w4.cell? ⟨gx, 1, none⟩ = some (.int .i64 a1) := (blk_cell KX.out 1).trans rfl; have cx2 : w4.cell? ⟨gx, 2, none⟩ = some (.int .i64 a2) := (blk_cell KX.out 2).trans rfl; have cx3 : w4.cell? ⟨gx, 3, none⟩ = some (.int .i64 a3) := (blk_cell KX.out 3).trans rfl; have cx4 : w4.cell? ⟨gx, 4, none⟩ = some (.int .i64 a4) := (blk_cell KX.out 4).trans rfl; have cx5 : w4.cell? ⟨gx, 5, none⟩ = some (.int .i64 a5) := (blk_cell KX.out 5).trans rfl; have cx6 : w4.cell? ⟨gx, 6, none⟩ = some (.int .i64 a6) := (blk_cell KX.out 6).trans rfl; have cx7 : w4.cell? ⟨gx, 7, none⟩ = some (.bool a7) := (blk_cell KX.out 7).trans rfl; have cx8 : w4.cell? ⟨gx, 8, none⟩ = some (.int .i64 a8) := (blk_cell KX.out 8).trans rfl) | (go_at_call 67; (with_reducible refine (FCA.out _ (blk_below KG.out BX3.out) (Kd.R_below KR.out BX3.out)).mono ?_); rintro e w5 ⟨rfl, hb⟩; have BX5 := Aside0.mk (below_step BX3.out hb); have KX5 := Aside0.mk (blk_below KX.out hb); have HB5 := Aside0.mk (below_step HB.out BX5.out); have KG5 := Aside0.mk (blk_below KG.out BX5.out); have KR5 := Aside0.mk (Kd.R_below KR.out BX5.out); have cg2 : w5.cell? ⟨g, 2, none⟩ = some (.bool gr) := (blk_cell KG5.out 2).trans rfl; have cg1 : w5.cell? ⟨g, 1, none⟩ = some (.slice (some ⟨gi, 0, none⟩) xs.length cap) := (blk_cell KG5.out 1).trans rfl; clear hb; clear cx0 cx1 cx2 cx3 cx4 cx5 cx6 cx7 cx8; have dx0 : w5.cell? ⟨gx, 0, none⟩ = some (.int .i64 a0) := (blk_cell KX5.out 0).trans rfl; have dx6 : w5.cell? ⟨gx, 6, none⟩ = some (.int .i64 a6) := (blk_cell KX5.out 6).trans rfl))
        obtain ⟨cs7, cf7⟩ := row_get KR5.out k (by omega) (by omega) 7 _ rfl
        obtain ⟨cs8, cf8⟩ := row_get KR5.out k (by omega) (by omega) 8 _ rfl
        simp only [Int.toNat_natCast] at cs7 cf7 cs8 cf8
        rw [HRX.out] at cs7 cs8
        simp only at cs7 cs8
        have ngi : g ≠ gi := by have := HGI.out; omega
        have nxi : gx ≠ gi := by have := blk_lt KG.out; have := HGI.out; have := HGX.out; omega
        refine start_ (n := 18) (S := fun w' => w'.cell? ⟨g, 1, none⟩ = some (.slice (some ⟨gi, 0, none⟩) xs.length cap) ∧ w'.cell? ⟨gx, 6, none⟩ = some (.int .i64 a6)) (ds := []) #[false, false, false, false, false, false, false, false, false, false, false, false, false, false, false, false, false, false] (by kernel_rfl) rfl rfl ⟨(show w5.drew.cell? _ = _ from cg1), (show w5.drew.cell? _ = _ from dx6)⟩ (fun hHeld => ?_)
        refine pure_ (i := 0) (N := some 78) (v := ?_) (a' := ?_) #[true, false, false, false, false, false, false, false, false, false, false, false, false, false, false, false, false, false] rfl rfl (by kernel_rfl) (fun _ _ _ h => h) (Or.inl ⟨by rfl, ?_⟩) ?_ ?_
        rotate_left
        · intro w'
          go_simp
          with_reducible rfl
        rotate_left
        · simp only [Act.put, List.setIfInBounds_toArray, List.set_cons_zero, List.set_cons_succ, i64_w, i32_w]
          rfl
        refine pure_ (i := 1) (N := some 79) (v := ?_) (a' := ?_) #[true, true, false, false, false, false, false, false, false, false, false, false, false, false, false, false, false, false] rfl rfl (by kernel_rfl) (fun _ _ _ h => h) (Or.inl ⟨by rfl, ?_⟩) ?_ ?_
        rotate_left
        · intro w'
          go_simp
          with_reducible rfl
        rotate_left
        · simp only [Act.put, List.setIfInBounds_toArray, List.set_cons_zero, List.set_cons_succ, i64_w, i32_w]
          rfl
        refine pure_ (i := 2) (N := some 80) (v := ?_) (a' := ?_) #[true, true, true, false, false, false, false, false, false, false, false, false, false, false, false, false, false, false] rfl rfl (by kernel_rfl) (fun _ _ _ h => h) (Or.inl ⟨by rfl, ?_⟩) ?_ ?_
        rotate_left
        · intro w'
          go_simp
          with_reducible rfl
        rotate_left
        · simp only [Act.put, List.setIfInBounds_toArray, List.set_cons_zero, List.set_cons_succ, i64_w, i32_w]
          rfl
        refine pure_ (i := 4) (N := some 82) (v := ?_) (a' := ?_) #[true, true, true, false, true, false, false, false, false, false, false, false, false, false, false, false, false, false] rfl rfl (by kernel_rfl) (fun _ _ _ h => h) (Or.inl ⟨by rfl, ?_⟩) ?_ ?_
        rotate_left
        · intro w'
          go_simp
          with_reducible rfl
        rotate_left
        · simp only [Act.put, List.setIfInBounds_toArray, List.set_cons_zero, List.set_cons_succ, i64_w, i32_w]
          rfl
        refine pure_ (i := 5) (N := some 83) (v := ?_) (a' := ?_) #[true, true, true, false, true, true, false, false, false, false, false, false, false, false, false, false, false, false] rfl rfl (by kernel_rfl) (fun _ _ _ h => h) (Or.inl ⟨by rfl, ?_⟩) ?_ ?_
        rotate_left
        · intro w'
          go_simp
          with_reducible rfl
        rotate_left
        · simp only [Act.put, List.setIfInBounds_toArray, List.set_cons_zero, List.set_cons_succ, i64_w, i32_w]
          rfl
        refine pure_ (i := 6) (N := some 84) (v := ?_) (a' := ?_) #[true, true, true, false, true, true, true, false, false, false, false, false, false, false, false, false, false, false] rfl rfl (by kernel_rfl) (fun _ _ _ h => h) (Or.inl ⟨by rfl, ?_⟩) ?_ ?_
        rotate_left
        · intro w'
          go_simp
          with_reducible rfl
        rotate_left
        · simp only [Act.put, List.setIfInBounds_toArray, List.set_cons_zero, List.set_cons_succ, i64_w, i32_w]
          rfl
        refine pure_ (i := 7) (N := some 85) (v := ?_) (a' := ?_) #[true, true, true, false, true, true, true, true, false, false, false, false, false, false, false, false, false, false] rfl rfl (by kernel_rfl) (fun _ _ _ h => h) (Or.inl ⟨by rfl, ?_⟩) ?_ ?_
        rotate_left
        · intro w'
          go_simp
          with_reducible rfl
        rotate_left
        · simp only [Act.put, List.setIfInBounds_toArray, List.set_cons_zero, List.set_cons_succ, i64_w, i32_w]
          rfl
        refine pure_ (i := 9) (N := some 87) (v := ?_) (a' := ?_) #[true, true, true, false, true, true, true, true, false, true, false, false, false, false, false, false, false, false] rfl rfl (by kernel_rfl) (fun _ _ _ h => h) (Or.inl ⟨by rfl, ?_⟩) ?_ ?_
        rotate_left
        · intro w'
          go_simp
          with_reducible rfl
        rotate_left
        · simp only [Act.put, List.setIfInBounds_toArray, List.set_cons_zero, List.set_cons_succ, i64_w, i32_w]
          rfl
        refine pure_ (i := 10) (N := some 88) (v := ?_) (a' := ?_) #[true, true, true, false, true, true, true, true, false, true, true, false, false, false, false, false, false, false] rfl rfl (by kernel_rfl) (fun _ _ _ h => h) (Or.inl ⟨by rfl, ?_⟩) ?_ ?_
        rotate_left
        · intro w'
          go_simp
          with_reducible rfl
        rotate_left
        · simp only [Act.put, List.setIfInBounds_toArray, List.set_cons_zero, List.set_cons_succ, i64_w, i32_w]
          rfl
        refine take_ (i := 3) (N := some 81) (v := ?_) (a' := ?_) #[true, true, true, true, true, true, true, true, false, true, true, false, false, false, false, false, false, false] rfl rfl (by kernel_rfl) (fun _ _ _ h => h) (Or.inl ⟨by rfl, ?_⟩) hHeld ?_ ?_
        rotate_left
        · rintro w' ⟨s0, s1⟩
          go_simp
          with_reducible rfl
        rotate_left
        · simp only [Act.put, List.setIfInBounds_toArray, List.set_cons_zero, List.set_cons_succ, i64_w, i32_w]
          rfl
        refine take_ (i := 8) (N := some 86) (v := ?_) (a' := ?_) #[true, true, true, true, true, true, true, true, true, true, true, false, false, false, false, false, false, false] rfl rfl (by kernel_rfl) (fun _ _ _ h => h) (Or.inl ⟨by rfl, ?_⟩) hHeld ?_ ?_
        rotate_left
        · rintro w' ⟨s0, s1⟩
          go_simp
          with_reducible rfl
        rotate_left
        · simp only [Act.put, List.setIfInBounds_toArray, List.set_cons_zero, List.set_cons_succ, i64_w, i32_w]
          rfl
        refine pure_ (i := 12) (N := some 90) (v := ?_) (a' := ?_) #[true, true, true, true, true, true, true, true, true, true, true, false, true, false, false, false, false, false] rfl rfl (by kernel_rfl) (fun _ _ _ h => h) (Or.inl ⟨by rfl, ?_⟩) ?_ ?_
        rotate_left
        · intro w'
          go_simp
          with_reducible rfl
        rotate_left
        · simp only [Act.put, List.setIfInBounds_toArray, List.set_cons_zero, List.set_cons_succ, i64_w, i32_w]
          rfl
        refine pure_ (i := 13) (N := some 91) (v := ?_) (a' := ?_) #[true, true, true, true, true, true, true, true, true, true, true, false, true, true, false, false, false, false] rfl rfl (by kernel_rfl) (fun _ _ _ h => h) (Or.inl ⟨by rfl, ?_⟩) ?_ ?_
        rotate_left
        · intro w'
          go_simp
          with_reducible rfl
        rotate_left
        · simp only [Act.put, List.setIfInBounds_toArray, List.set_cons_zero, List.set_cons_succ, i64_w, i32_w]
          rfl
        refine take_ (i := 11) (N := some 89) (v := ?_) (a' := ?_) #[true, true, true, true, true, true, true, true, true, true, true, true, true, true, false, false, false, false] rfl rfl (by kernel_rfl) (fun _ _ _ h => h) (Or.inl ⟨by rfl, ?_⟩) hHeld ?_ ?_
        rotate_left
        · rintro w' ⟨s0, s1⟩
          go_simp
          with_reducible rfl
        rotate_left
        · simp only [Act.put, List.setIfInBounds_toArray, List.set_cons_zero, List.set_cons_succ, i64_w, i32_w]
          rfl
        refine one_ (i := 14) (N := none) #[true, true, true, true, true, true, true, true, true, true, true, true, true, true, true, false, false, false] rfl rfl (by kernel_rfl) (by decide) (fun K hK => ?_)
        refine skip_ (w1 := ?_) (by rfl) rfl ?_ ?_
        rotate_left
        · go_simp
          rfl
        refine hK.out _ _ ⟨(blk_cell (blk_far (p := ⟨gi, k * 9 + 7, none⟩) (show w5.drew.heap[g]? = _ from KG5.out) ngi (.bool true)) 1).trans rfl, (blk_cell (blk_far (p := ⟨gi, k * 9 + 7, none⟩) (show w5.drew.heap[gx]? = _ from KX5.out) nxi (.bool true)) 6).trans rfl⟩ (fun hHeld => ?_)
        clear hK K
        refine pure_ (i := 15) (N := some 92) (v := ?_) (a' := ?_) #[true, true, true, true, true, true, true, true, true, true, true, true, true, true, true, true, false, false] rfl rfl (by kernel_rfl) (fun _ _ _ h => h) (Or.inl ⟨by rfl, ?_⟩) ?_ ?_
        rotate_left
        · intro w'
          go_simp
          with_reducible rfl
        rotate_left
        · simp only [Act.put, List.setIfInBounds_toArray, List.set_cons_zero, List.set_cons_succ, i64_w, i32_w]
          rfl
        refine pure_ (i := 16) (N := some 93) (v := ?_) (a' := ?_) #[true, true, true, true, true, true, true, true, true, true, true, true, true, true, true, true, true, false] rfl rfl (by kernel_rfl) (fun _ _ _ h => h) (Or.inl ⟨by rfl, ?_⟩) ?_ ?_
        rotate_left
        · intro w'
          go_simp
          with_reducible rfl
        rotate_left
        · simp only [Act.put, List.setIfInBounds_toArray, List.set_cons_zero, List.set_cons_succ, i64_w, i32_w]
          rfl
        refine one_ (i := 17) (N := none) #[true, true, true, true, true, true, true, true, true, true, true, true, true, true, true, true, true, true] rfl rfl (by kernel_rfl) (by decide) (fun K hK => ?_)
        refine skip_ (w1 := ?_) (by rfl) rfl ?_ ?_
        rotate_left
        · go_simp
          rfl
        refine hK.out _ _ ⟨(blk_cell (blk_far (p := ⟨gi, k * 9 + 8, none⟩) (blk_far (p := ⟨gi, k * 9 + 7, none⟩) (show w5.drew.heap[g]? = _ from KG5.out) ngi (.bool true)) ngi (.int .i64 a6)) 1).trans rfl, (blk_cell (blk_far (p := ⟨gi, k * 9 + 8, none⟩) (blk_far (p := ⟨gi, k * 9 + 7, none⟩) (show w5.drew.heap[gx]? = _ from KX5.out) nxi (.bool true)) nxi (.int .i64 a6)) 6).trans rfl⟩ (fun hHeld => ?_)
        clear hK K
        refine done_ (by kernel_rfl) ?_
        have h7 := row_set KR5.out k (by omega) (by omega) 7 (by omega) (.bool true) ⟨⟨a0, a1, a2, a3, a4, a5⟩, a6, true, a8⟩ (by rw [HRX.out]; rfl)
        have h8 := row_set h7 k (by omega) (by omega) 8 (by omega) (.int .i64 a6) ⟨⟨a0, a1, a2, a3, a4, a5⟩, a6, true, a6⟩ (by rw [show rd_T99 ((begun gr xs k).set (k : Int).toNat ⟨⟨a0, a1, a2, a3, a4, a5⟩, a6, true, a8⟩) k = ⟨⟨a0, a1, a2, a3, a4, a5⟩, a6, true, a8⟩ by show List.getD _ (k : Int).toNat _ = _; rw [Int.toNat_natCast, List.getD_eq_getElem?_getD, List.getElem?_set_self (by rw [begun_length]; exact hlt)]; rfl]; rfl)
        simp only [Int.toNat_natCast, List.set_set] at h8
        have KR8 := Aside0.mk (Kd.R_drew h8)
        have KG8 := Aside0.mk (show (((w5.setCell ⟨gi, k * 9 + 7, none⟩ (.bool true)).setCell ⟨gi, k * 9 + 8, none⟩ (.int .i64 a6)).drew).heap[g]? = some (cells96 rm (some ⟨gi, 0, none⟩) xs.length cap gr) from blk_far (blk_far KG5.out (by have := HGI.out; show g ≠ gi; omega) _) (by have := HGI.out; show g ≠ gi; omega) _)
        have HB8 := Aside0.mk (below_drew1b ((HB5.out.setCell (p := ⟨gi, k * 9 + 7, none⟩) (by have := HBI.out; have := S2.out; show w.heap.size ≤ gi; omega) (.bool true)).setCell (p := ⟨gi, k * 9 + 8, none⟩) (by have := HBI.out; have := S2.out; show w.heap.size ≤ gi; omega) (.int .i64 a6)))
        clear h7 h8 cs7 cf7 cs8 cf8 dx0 dx6 cg1 cg2
        go_wp2
        go_roundw
        case rel => exact ⟨k + 1, by omega, by go_num, KG8, ⟨by rw [HS.out]; exact KR8.out⟩, HB8⟩
        case measure => simp [intOf]; omega
      · have e0 : (fv == 0) = false := beq_eq_false_iff_ne.mpr h0
        clear h0
        cases gr
        · by_cases h1 : a0 < a6
          · have e1 : decide (a0 < a6) = true := decide_eq_true h1
            clear h1
            have HT : Aside0 (atOnce false ⟨⟨a0, a1, a2, a3, a4, a5⟩, a6, a7, a8⟩ = true) := ⟨by rw [HAT.out, e0, e1]; first | rfl | simp⟩
            rw [HT.out] at HS
            go_wp2_with (first | ((with_reducible refine gate_dst (N := 9) rfl ?_); refine box_event rfl (N := 9) rfl (cs := #[.int .i64 0, .int .i64 0, .int .i64 0, .int .i64 0, .int .i64 0, .int .i64 0, .int .i64 0, .bool false, .int .i64 0]) (t := 99) (by first | (go_simp; done) | (go_simp; rfl)) ?_; intro gx hgx w3 hbx hb; have KX0 := Aside0.mk hbx; have HGX : Aside0 (wr.heap.size ≤ gx) := ⟨by omega⟩; have BX := Aside0.mk hb; clear hgx hbx hb) | ((with_reducible refine gate_store (t := 99) (p := 9) rfl ?_); refine store_event (t := 99) (p := 9) (w1 := w3.setCells gx 0 (#[.int .i64 a0, .int .i64 a1, .int .i64 a2, .int .i64 a3, .int .i64 a4, .int .i64 a5, .int .i64 a6, .bool a7, .int .i64 a8] : Array Value).toList) rfl rfl rfl (store_run 99 (.tmp 9) (.tmp 44) gx #[.int .i64 a0, .int .i64 a1, .int .i64 a2, .int .i64 a3, .int .i64 a4, .int .i64 a5, .int .i64 a6, .bool a7, .int .i64 a8] rfl rfl rfl (there_row KX0.out _ (Nat.le_refl 9)) (by kernel_rfl) (all_oneCell_toArray (cs := [.int .i64 a0, .int .i64 a1, .int .i64 a2, .int .i64 a3, .int .i64 a4, .int .i64 a5, .int .i64 a6, .bool a7, .int .i64 a8]) (by intro v hv; simp only [List.mem_cons, List.not_mem_nil, or_false] at hv; rcases hv with rfl | rfl | rfl | rfl | rfl | rfl | rfl | rfl | rfl <;> rfl))) ?_; intro w4 hw3; have KX : Aside0 (w4.heap[gx]? = some (.cells #[.int .i64 a0, .int .i64 a1, .int .i64 a2, .int .i64 a3, .int .i64 a4, .int .i64 a5, .int .i64 a6, .bool a7, .int .i64 a8] 99 (0, 0))) := ⟨by rw [hw3]; exact sets_row KX0.out rfl⟩; have BX3 : Aside0 (Below wr.heap.size wr w4) := ⟨by rw [hw3]; exact sets_below HGX.out _ 0 _ BX.out⟩; clear hw3; have cx0 : w4.cell? ⟨gx, 0, none⟩ = some (.int .i64 a0) := (blk_cell KX.out 0).trans rfl; have cx1 : w4.cell? ⟨gx, 1, none⟩ = some (.int .i64 a1) := (blk_cell KX.out 1).trans rfl; have cx2 : w4.cell? ⟨gx, 2, none⟩ = some (.int .i64 a2) := (blk_cell KX.out 2).trans rfl; have cx3 : w4.cell? ⟨gx, 3, none⟩ = some (.int .i64 a3) := (blk_cell KX.out 3).trans rfl; have cx4 : w4.cell? ⟨gx, 4, none⟩ = some (.int .i64 a4) := (blk_cell KX.out 4).trans rfl; have cx5 : w4.cell? ⟨gx, 5, none⟩ = some (.int .i64 a5) := (blk_cell KX.out 5).trans rfl; have cx6 : w4.cell? ⟨gx, 6, none⟩ = some (.int .i64 a6) := (blk_cell KX.out 6).trans rfl; have cx7 : w4.cell? ⟨gx, 7, none⟩ = some (.bool a7) := (blk_cell KX.out 7).trans rfl; have cx8 : w4.cell? ⟨gx, 8, none⟩ = some (.int .i64 a8) := (blk_cell KX.out 8).trans rfl) | (go_at_call 67; (with_reducible refine (FCA.out _ (blk_below KG.out BX3.out) (Kd.R_below KR.out BX3.out)).mono ?_); rintro e w5 ⟨rfl, hb⟩; have BX5 := Aside0.mk (below_step BX3.out hb); have KX5 := Aside0.mk (blk_below KX.out hb); have HB5 := Aside0.mk (below_step HB.out BX5.out); have KG5 := Aside0.mk (blk_below KG.out BX5.out); have KR5 := Aside0.mk (Kd.R_below KR.out BX5.out); have cg2 : w5.cell? ⟨g, 2, none⟩ = some (.bool false) := (blk_cell KG5.out 2).trans rfl; have cg1 : w5.cell? ⟨g, 1, none⟩ = some (.slice (some ⟨gi, 0, none⟩) xs.length cap) := (blk_cell KG5.out 1).trans rfl; clear hb; clear cx0 cx1 cx2 cx3 cx4 cx5 cx6 cx7 cx8; have dx0 : w5.cell? ⟨gx, 0, none⟩ = some (.int .i64 a0) := (blk_cell KX5.out 0).trans rfl; have dx6 : w5.cell? ⟨gx, 6, none⟩ = some (.int .i64 a6) := (blk_cell KX5.out 6).trans rfl))
            obtain ⟨cs7, cf7⟩ := row_get KR5.out k (by omega) (by omega) 7 _ rfl
            obtain ⟨cs8, cf8⟩ := row_get KR5.out k (by omega) (by omega) 8 _ rfl
            simp only [Int.toNat_natCast] at cs7 cf7 cs8 cf8
            rw [HRX.out] at cs7 cs8
            simp only at cs7 cs8
            have ngi : g ≠ gi := by have := HGI.out; omega
            have nxi : gx ≠ gi := by have := blk_lt KG.out; have := HGI.out; have := HGX.out; omega
            refine start_ (n := 18) (S := fun w' => w'.cell? ⟨g, 1, none⟩ = some (.slice (some ⟨gi, 0, none⟩) xs.length cap) ∧ w'.cell? ⟨gx, 6, none⟩ = some (.int .i64 a6)) (ds := []) #[false, false, false, false, false, false, false, false, false, false, false, false, false, false, false, false, false, false] (by kernel_rfl) rfl rfl ⟨(show w5.drew.cell? _ = _ from cg1), (show w5.drew.cell? _ = _ from dx6)⟩ (fun hHeld => ?_)
            refine pure_ (i := 0) (N := some 78) (v := ?_) (a' := ?_) #[true, false, false, false, false, false, false, false, false, false, false, false, false, false, false, false, false, false] rfl rfl (by kernel_rfl) (fun _ _ _ h => h) (Or.inl ⟨by rfl, ?_⟩) ?_ ?_
            rotate_left
            · intro w'
              go_simp
              with_reducible rfl
            rotate_left
            · simp only [Act.put, List.setIfInBounds_toArray, List.set_cons_zero, List.set_cons_succ, i64_w, i32_w]
              rfl
            refine pure_ (i := 1) (N := some 79) (v := ?_) (a' := ?_) #[true, true, false, false, false, false, false, false, false, false, false, false, false, false, false, false, false, false] rfl rfl (by kernel_rfl) (fun _ _ _ h => h) (Or.inl ⟨by rfl, ?_⟩) ?_ ?_
            rotate_left
            · intro w'
              go_simp
              with_reducible rfl
            rotate_left
            · simp only [Act.put, List.setIfInBounds_toArray, List.set_cons_zero, List.set_cons_succ, i64_w, i32_w]
              rfl
            refine pure_ (i := 2) (N := some 80) (v := ?_) (a' := ?_) #[true, true, true, false, false, false, false, false, false, false, false, false, false, false, false, false, false, false] rfl rfl (by kernel_rfl) (fun _ _ _ h => h) (Or.inl ⟨by rfl, ?_⟩) ?_ ?_
            rotate_left
            · intro w'
              go_simp
              with_reducible rfl
            rotate_left
            · simp only [Act.put, List.setIfInBounds_toArray, List.set_cons_zero, List.set_cons_succ, i64_w, i32_w]
              rfl
            refine pure_ (i := 4) (N := some 82) (v := ?_) (a' := ?_) #[true, true, true, false, true, false, false, false, false, false, false, false, false, false, false, false, false, false] rfl rfl (by kernel_rfl) (fun _ _ _ h => h) (Or.inl ⟨by rfl, ?_⟩) ?_ ?_
            rotate_left
            · intro w'
              go_simp
              with_reducible rfl
            rotate_left
            · simp only [Act.put, List.setIfInBounds_toArray, List.set_cons_zero, List.set_cons_succ, i64_w, i32_w]
              rfl
            refine pure_ (i := 5) (N := some 83) (v := ?_) (a' := ?_) #[true, true, true, false, true, true, false, false, false, false, false, false, false, false, false, false, false, false] rfl rfl (by kernel_rfl) (fun _ _ _ h => h) (Or.inl ⟨by rfl, ?_⟩) ?_ ?_
            rotate_left
            · intro w'
              go_simp
              with_reducible rfl
            rotate_left
            · simp only [Act.put, List.setIfInBounds_toArray, List.set_cons_zero, List.set_cons_succ, i64_w, i32_w]
              rfl
            refine pure_ (i := 6) (N := some 84) (v := ?_) (a' := ?_) #[true, true, true, false, true, true, true, false, false, false, false, false, false, false, false, false, false, false] rfl rfl (by kernel_rfl) (fun _ _ _ h => h) (Or.inl ⟨by rfl, ?_⟩) ?_ ?_
            rotate_left
            · intro w'
              go_simp
              with_reducible rfl
            rotate_left
            · simp only [Act.put, List.setIfInBounds_toArray, List.set_cons_zero, List.set_cons_succ, i64_w, i32_w]
              rfl
            refine pure_ (i := 7) (N := some 85) (v := ?_) (a' := ?_) #[true, true, true, false, true, true, true, true, false, false, false, false, false, false, false, false, false, false] rfl rfl (by kernel_rfl) (fun _ _ _ h => h) (Or.inl ⟨by rfl, ?_⟩) ?_ ?_
            rotate_left
            · intro w'
              go_simp
              with_reducible rfl
            rotate_left
            · simp only [Act.put, List.setIfInBounds_toArray, List.set_cons_zero, List.set_cons_succ, i64_w, i32_w]
              rfl
            refine pure_ (i := 9) (N := some 87) (v := ?_) (a' := ?_) #[true, true, true, false, true, true, true, true, false, true, false, false, false, false, false, false, false, false] rfl rfl (by kernel_rfl) (fun _ _ _ h => h) (Or.inl ⟨by rfl, ?_⟩) ?_ ?_
            rotate_left
            · intro w'
              go_simp
              with_reducible rfl
            rotate_left
            · simp only [Act.put, List.setIfInBounds_toArray, List.set_cons_zero, List.set_cons_succ, i64_w, i32_w]
              rfl
            refine pure_ (i := 10) (N := some 88) (v := ?_) (a' := ?_) #[true, true, true, false, true, true, true, true, false, true, true, false, false, false, false, false, false, false] rfl rfl (by kernel_rfl) (fun _ _ _ h => h) (Or.inl ⟨by rfl, ?_⟩) ?_ ?_
            rotate_left
            · intro w'
              go_simp
              with_reducible rfl
            rotate_left
            · simp only [Act.put, List.setIfInBounds_toArray, List.set_cons_zero, List.set_cons_succ, i64_w, i32_w]
              rfl
            refine take_ (i := 3) (N := some 81) (v := ?_) (a' := ?_) #[true, true, true, true, true, true, true, true, false, true, true, false, false, false, false, false, false, false] rfl rfl (by kernel_rfl) (fun _ _ _ h => h) (Or.inl ⟨by rfl, ?_⟩) hHeld ?_ ?_
            rotate_left
            · rintro w' ⟨s0, s1⟩
              go_simp
              with_reducible rfl
            rotate_left
            · simp only [Act.put, List.setIfInBounds_toArray, List.set_cons_zero, List.set_cons_succ, i64_w, i32_w]
              rfl
            refine take_ (i := 8) (N := some 86) (v := ?_) (a' := ?_) #[true, true, true, true, true, true, true, true, true, true, true, false, false, false, false, false, false, false] rfl rfl (by kernel_rfl) (fun _ _ _ h => h) (Or.inl ⟨by rfl, ?_⟩) hHeld ?_ ?_
            rotate_left
            · rintro w' ⟨s0, s1⟩
              go_simp
              with_reducible rfl
            rotate_left
            · simp only [Act.put, List.setIfInBounds_toArray, List.set_cons_zero, List.set_cons_succ, i64_w, i32_w]
              rfl
            refine pure_ (i := 12) (N := some 90) (v := ?_) (a' := ?_) #[true, true, true, true, true, true, true, true, true, true, true, false, true, false, false, false, false, false] rfl rfl (by kernel_rfl) (fun _ _ _ h => h) (Or.inl ⟨by rfl, ?_⟩) ?_ ?_
            rotate_left
            · intro w'
              go_simp
              with_reducible rfl
            rotate_left
            · simp only [Act.put, List.setIfInBounds_toArray, List.set_cons_zero, List.set_cons_succ, i64_w, i32_w]
              rfl
            refine pure_ (i := 13) (N := some 91) (v := ?_) (a' := ?_) #[true, true, true, true, true, true, true, true, true, true, true, false, true, true, false, false, false, false] rfl rfl (by kernel_rfl) (fun _ _ _ h => h) (Or.inl ⟨by rfl, ?_⟩) ?_ ?_
            rotate_left
            · intro w'
              go_simp
              with_reducible rfl
            rotate_left
            · simp only [Act.put, List.setIfInBounds_toArray, List.set_cons_zero, List.set_cons_succ, i64_w, i32_w]
              rfl
            refine take_ (i := 11) (N := some 89) (v := ?_) (a' := ?_) #[true, true, true, true, true, true, true, true, true, true, true, true, true, true, false, false, false, false] rfl rfl (by kernel_rfl) (fun _ _ _ h => h) (Or.inl ⟨by rfl, ?_⟩) hHeld ?_ ?_
            rotate_left
            · rintro w' ⟨s0, s1⟩
              go_simp
              with_reducible rfl
            rotate_left
            · simp only [Act.put, List.setIfInBounds_toArray, List.set_cons_zero, List.set_cons_succ, i64_w, i32_w]
              rfl
            refine one_ (i := 14) (N := none) #[true, true, true, true, true, true, true, true, true, true, true, true, true, true, true, false, false, false] rfl rfl (by kernel_rfl) (by decide) (fun K hK => ?_)
            refine skip_ (w1 := ?_) (by rfl) rfl ?_ ?_
            rotate_left
            · go_simp
              rfl
            refine hK.out _ _ ⟨(blk_cell (blk_far (p := ⟨gi, k * 9 + 7, none⟩) (show w5.drew.heap[g]? = _ from KG5.out) ngi (.bool true)) 1).trans rfl, (blk_cell (blk_far (p := ⟨gi, k * 9 + 7, none⟩) (show w5.drew.heap[gx]? = _ from KX5.out) nxi (.bool true)) 6).trans rfl⟩ (fun hHeld => ?_)
            clear hK K
            refine pure_ (i := 15) (N := some 92) (v := ?_) (a' := ?_) #[true, true, true, true, true, true, true, true, true, true, true, true, true, true, true, true, false, false] rfl rfl (by kernel_rfl) (fun _ _ _ h => h) (Or.inl ⟨by rfl, ?_⟩) ?_ ?_
            rotate_left
            · intro w'
              go_simp
              with_reducible rfl
            rotate_left
            · simp only [Act.put, List.setIfInBounds_toArray, List.set_cons_zero, List.set_cons_succ, i64_w, i32_w]
              rfl
            refine pure_ (i := 16) (N := some 93) (v := ?_) (a' := ?_) #[true, true, true, true, true, true, true, true, true, true, true, true, true, true, true, true, true, false] rfl rfl (by kernel_rfl) (fun _ _ _ h => h) (Or.inl ⟨by rfl, ?_⟩) ?_ ?_
            rotate_left
            · intro w'
              go_simp
              with_reducible rfl
            rotate_left
            · simp only [Act.put, List.setIfInBounds_toArray, List.set_cons_zero, List.set_cons_succ, i64_w, i32_w]
              rfl
            refine one_ (i := 17) (N := none) #[true, true, true, true, true, true, true, true, true, true, true, true, true, true, true, true, true, true] rfl rfl (by kernel_rfl) (by decide) (fun K hK => ?_)
            refine skip_ (w1 := ?_) (by rfl) rfl ?_ ?_
            rotate_left
            · go_simp
              rfl
            refine hK.out _ _ ⟨(blk_cell (blk_far (p := ⟨gi, k * 9 + 8, none⟩) (blk_far (p := ⟨gi, k * 9 + 7, none⟩) (show w5.drew.heap[g]? = _ from KG5.out) ngi (.bool true)) ngi (.int .i64 a6)) 1).trans rfl, (blk_cell (blk_far (p := ⟨gi, k * 9 + 8, none⟩) (blk_far (p := ⟨gi, k * 9 + 7, none⟩) (show w5.drew.heap[gx]? = _ from KX5.out) nxi (.bool true)) nxi (.int .i64 a6)) 6).trans rfl⟩ (fun hHeld => ?_)
            clear hK K
            refine done_ (by kernel_rfl) ?_
            have h7 := row_set KR5.out k (by omega) (by omega) 7 (by omega) (.bool true) ⟨⟨a0, a1, a2, a3, a4, a5⟩, a6, true, a8⟩ (by rw [HRX.out]; rfl)
            have h8 := row_set h7 k (by omega) (by omega) 8 (by omega) (.int .i64 a6) ⟨⟨a0, a1, a2, a3, a4, a5⟩, a6, true, a6⟩ (by rw [show rd_T99 ((begun false xs k).set (k : Int).toNat ⟨⟨a0, a1, a2, a3, a4, a5⟩, a6, true, a8⟩) k = ⟨⟨a0, a1, a2, a3, a4, a5⟩, a6, true, a8⟩ by show List.getD _ (k : Int).toNat _ = _; rw [Int.toNat_natCast, List.getD_eq_getElem?_getD, List.getElem?_set_self (by rw [begun_length]; exact hlt)]; rfl]; rfl)
            simp only [Int.toNat_natCast, List.set_set] at h8
            have KR8 := Aside0.mk (Kd.R_drew h8)
            have KG8 := Aside0.mk (show (((w5.setCell ⟨gi, k * 9 + 7, none⟩ (.bool true)).setCell ⟨gi, k * 9 + 8, none⟩ (.int .i64 a6)).drew).heap[g]? = some (cells96 rm (some ⟨gi, 0, none⟩) xs.length cap false) from blk_far (blk_far KG5.out (by have := HGI.out; show g ≠ gi; omega) _) (by have := HGI.out; show g ≠ gi; omega) _)
            have HB8 := Aside0.mk (below_drew1b ((HB5.out.setCell (p := ⟨gi, k * 9 + 7, none⟩) (by have := HBI.out; have := S2.out; show w.heap.size ≤ gi; omega) (.bool true)).setCell (p := ⟨gi, k * 9 + 8, none⟩) (by have := HBI.out; have := S2.out; show w.heap.size ≤ gi; omega) (.int .i64 a6)))
            clear h7 h8 cs7 cf7 cs8 cf8 dx0 dx6 cg1 cg2
            go_wp2
            go_roundw
            case rel => exact ⟨k + 1, by omega, by go_num, KG8, ⟨by rw [HS.out]; exact KR8.out⟩, HB8⟩
            case measure => simp [intOf]; omega
          · have e1 : decide (a0 < a6) = false := decide_eq_false h1
            clear h1
            have HT : Aside0 (atOnce false ⟨⟨a0, a1, a2, a3, a4, a5⟩, a6, a7, a8⟩ = false) := ⟨by rw [HAT.out, e0, e1]; first | rfl | simp⟩
            rw [HT.out] at HS
            go_wp2_with (first | ((with_reducible refine gate_dst (N := 9) rfl ?_); refine box_event rfl (N := 9) rfl (cs := #[.int .i64 0, .int .i64 0, .int .i64 0, .int .i64 0, .int .i64 0, .int .i64 0, .int .i64 0, .bool false, .int .i64 0]) (t := 99) (by first | (go_simp; done) | (go_simp; rfl)) ?_; intro gx hgx w3 hbx hb; have KX0 := Aside0.mk hbx; have HGX : Aside0 (wr.heap.size ≤ gx) := ⟨by omega⟩; have BX := Aside0.mk hb; clear hgx hbx hb) | ((with_reducible refine gate_store (t := 99) (p := 9) rfl ?_); refine store_event (t := 99) (p := 9) (w1 := w3.setCells gx 0 (#[.int .i64 a0, .int .i64 a1, .int .i64 a2, .int .i64 a3, .int .i64 a4, .int .i64 a5, .int .i64 a6, .bool a7, .int .i64 a8] : Array Value).toList) rfl rfl rfl (store_run 99 (.tmp 9) (.tmp 44) gx #[.int .i64 a0, .int .i64 a1, .int .i64 a2, .int .i64 a3, .int .i64 a4, .int .i64 a5, .int .i64 a6, .bool a7, .int .i64 a8] rfl rfl rfl (there_row KX0.out _ (Nat.le_refl 9)) (by kernel_rfl) (all_oneCell_toArray (cs := [.int .i64 a0, .int .i64 a1, .int .i64 a2, .int .i64 a3, .int .i64 a4, .int .i64 a5, .int .i64 a6, .bool a7, .int .i64 a8]) (by intro v hv; simp only [List.mem_cons, List.not_mem_nil, or_false] at hv; rcases hv with rfl | rfl | rfl | rfl | rfl | rfl | rfl | rfl | rfl <;> rfl))) ?_; intro w4 hw3; have KX : Aside0 (w4.heap[gx]? = some (.cells #[.int .i64 a0, .int .i64 a1, .int .i64 a2, .int .i64 a3, .int .i64 a4, .int .i64 a5, .int .i64 a6, .bool a7, .int .i64 a8] 99 (0, 0))) := ⟨by rw [hw3]; exact sets_row KX0.out rfl⟩; have BX3 : Aside0 (Below wr.heap.size wr w4) := ⟨by rw [hw3]; exact sets_below HGX.out _ 0 _ BX.out⟩; clear hw3; have cx0 : w4.cell? ⟨gx, 0, none⟩ = some (.int .i64 a0) := (blk_cell KX.out 0).trans rfl; have cx1 : w4.cell? ⟨gx, 1, none⟩ = some (.int .i64 a1) := (blk_cell KX.out 1).trans rfl; have cx2 : w4.cell? ⟨gx, 2, none⟩ = some (.int .i64 a2) := (blk_cell KX.out 2).trans rfl; have cx3 : w4.cell? ⟨gx, 3, none⟩ = some (.int .i64 a3) := (blk_cell KX.out 3).trans rfl; have cx4 : w4.cell? ⟨gx, 4, none⟩ = some (.int .i64 a4) := (blk_cell KX.out 4).trans rfl; have cx5 : w4.cell? ⟨gx, 5, none⟩ = some (.int .i64 a5) := (blk_cell KX.out 5).trans rfl; have cx6 : w4.cell? ⟨gx, 6, none⟩ = some (.int .i64 a6) := (blk_cell KX.out 6).trans rfl; have cx7 : w4.cell? ⟨gx, 7, none⟩ = some (.bool a7) := (blk_cell KX.out 7).trans rfl; have cx8 : w4.cell? ⟨gx, 8, none⟩ = some (.int .i64 a8) := (blk_cell KX.out 8).trans rfl) | (go_at_call 67; (with_reducible refine (FCA.out _ (blk_below KG.out BX3.out) (Kd.R_below KR.out BX3.out)).mono ?_); rintro e w5 ⟨rfl, hb⟩; have BX5 := Aside0.mk (below_step BX3.out hb); have KX5 := Aside0.mk (blk_below KX.out hb); have HB5 := Aside0.mk (below_step HB.out BX5.out); have KG5 := Aside0.mk (blk_below KG.out BX5.out); have KR5 := Aside0.mk (Kd.R_below KR.out BX5.out); have cg2 : w5.cell? ⟨g, 2, none⟩ = some (.bool false) := (blk_cell KG5.out 2).trans rfl; have cg1 : w5.cell? ⟨g, 1, none⟩ = some (.slice (some ⟨gi, 0, none⟩) xs.length cap) := (blk_cell KG5.out 1).trans rfl; clear hb; clear cx0 cx1 cx2 cx3 cx4 cx5 cx6 cx7 cx8; have dx0 : w5.cell? ⟨gx, 0, none⟩ = some (.int .i64 a0) := (blk_cell KX5.out 0).trans rfl; have dx6 : w5.cell? ⟨gx, 6, none⟩ = some (.int .i64 a6) := (blk_cell KX5.out 6).trans rfl))
            go_roundw
            case rel => exact ⟨k + 1, by omega, by go_num, KG5, ⟨by rw [HS.out]; exact KR5.out⟩, HB5⟩
            case measure => simp [intOf]; omega
        · by_cases h1 : a6 < a0
          · have e1 : decide (a6 < a0) = true := decide_eq_true h1
            clear h1
            have HT : Aside0 (atOnce true ⟨⟨a0, a1, a2, a3, a4, a5⟩, a6, a7, a8⟩ = true) := ⟨by rw [HAT.out, e0, e1]; first | rfl | simp⟩
            rw [HT.out] at HS
            go_wp2_with (first | ((with_reducible refine gate_dst (N := 9) rfl ?_); refine box_event rfl (N := 9) rfl (cs := #[.int .i64 0, .int .i64 0, .int .i64 0, .int .i64 0, .int .i64 0, .int .i64 0, .int .i64 0, .bool false, .int .i64 0]) (t := 99) (by first | (go_simp; done) | (go_simp; rfl)) ?_; intro gx hgx w3 hbx hb; have KX0 := Aside0.mk hbx; have HGX : Aside0 (wr.heap.size ≤ gx) := ⟨by omega⟩; have BX := Aside0.mk hb; clear hgx hbx hb) | ((with_reducible refine gate_store (t := 99) (p := 9) rfl ?_); refine store_event (t := 99) (p := 9) (w1 := w3.setCells gx 0 (#[.int .i64 a0, .int .i64 a1, .int .i64 a2, .int .i64 a3, .int .i64 a4, .int .i64 a5, .int .i64 a6, .bool a7, .int .i64 a8] : Array Value).toList) rfl rfl rfl (store_run 99 (.tmp 9) (.tmp 44) gx #[.int .i64 a0, .int .i64 a1, .int .i64 a2, .int .i64 a3, .int .i64 a4, .int .i64 a5, .int .i64 a6, .bool a7, .int .i64 a8] rfl rfl rfl (there_row KX0.out _ (Nat.le_refl 9)) (by kernel_rfl) (all_oneCell_toArray (cs := [.int .i64 a0, .int .i64 a1, .int .i64 a2, .int .i64 a3, .int .i64 a4, .int .i64 a5, .int .i64 a6, .bool a7, .int .i64 a8]) (by intro v hv; simp only [List.mem_cons, List.not_mem_nil, or_false] at hv; rcases hv with rfl | rfl | rfl | rfl | rfl | rfl | rfl | rfl | rfl <;> rfl))) ?_; intro w4 hw3; have KX : Aside0 (w4.heap[gx]? = some (.cells #[.int .i64 a0, .int .i64 a1, .int .i64 a2, .int .i64 a3, .int .i64 a4, .int .i64 a5, .int .i64 a6, .bool a7, .int .i64 a8] 99 (0, 0))) := ⟨by rw [hw3]; exact sets_row KX0.out rfl⟩; have BX3 : Aside0 (Below wr.heap.size wr w4) := ⟨by rw [hw3]; exact sets_below HGX.out _ 0 _ BX.out⟩; clear hw3; have cx0 : w4.cell? ⟨gx, 0, none⟩ = some (.int .i64 a0) := (blk_cell KX.out 0).trans rfl; have cx1 : w4.cell? ⟨gx, 1, none⟩ = some (.int .i64 a1) := (blk_cell KX.out 1).trans rfl; have cx2 : w4.cell? ⟨gx, 2, none⟩ = some (.int .i64 a2) := (blk_cell KX.out 2).trans rfl; have cx3 : w4.cell? ⟨gx, 3, none⟩ = some (.int .i64 a3) := (blk_cell KX.out 3).trans rfl; have cx4 : w4.cell? ⟨gx, 4, none⟩ = some (.int .i64 a4) := (blk_cell KX.out 4).trans rfl; have cx5 : w4.cell? ⟨gx, 5, none⟩ = some (.int .i64 a5) := (blk_cell KX.out 5).trans rfl; have cx6 : w4.cell? ⟨gx, 6, none⟩ = some (.int .i64 a6) := (blk_cell KX.out 6).trans rfl; have cx7 : w4.cell? ⟨gx, 7, none⟩ = some (.bool a7) := (blk_cell KX.out 7).trans rfl; have cx8 : w4.cell? ⟨gx, 8, none⟩ = some (.int .i64 a8) := (blk_cell KX.out 8).trans rfl) | (go_at_call 67; (with_reducible refine (FCA.out _ (blk_below KG.out BX3.out) (Kd.R_below KR.out BX3.out)).mono ?_); rintro e w5 ⟨rfl, hb⟩; have BX5 := Aside0.mk (below_step BX3.out hb); have KX5 := Aside0.mk (blk_below KX.out hb); have HB5 := Aside0.mk (below_step HB.out BX5.out); have KG5 := Aside0.mk (blk_below KG.out BX5.out); have KR5 := Aside0.mk (Kd.R_below KR.out BX5.out); have cg2 : w5.cell? ⟨g, 2, none⟩ = some (.bool true) := (blk_cell KG5.out 2).trans rfl; have cg1 : w5.cell? ⟨g, 1, none⟩ = some (.slice (some ⟨gi, 0, none⟩) xs.length cap) := (blk_cell KG5.out 1).trans rfl; clear hb; clear cx0 cx1 cx2 cx3 cx4 cx5 cx6 cx7 cx8; have dx0 : w5.cell? ⟨gx, 0, none⟩ = some (.int .i64 a0) := (blk_cell KX5.out 0).trans rfl; have dx6 : w5.cell? ⟨gx, 6, none⟩ = some (.int .i64 a6) := (blk_cell KX5.out 6).trans rfl))
            obtain ⟨cs7, cf7⟩ := row_get KR5.out k (by omega) (by omega) 7 _ rfl
            obtain ⟨cs8, cf8⟩ := row_get KR5.out k (by omega) (by omega) 8 _ rfl
            simp only [Int.toNat_natCast] at cs7 cf7 cs8 cf8
            rw [HRX.out] at cs7 cs8
            simp only at cs7 cs8
            have ngi : g ≠ gi := by have := HGI.out; omega
            have nxi : gx ≠ gi := by have := blk_lt KG.out; have := HGI.out; have := HGX.out; omega
            refine start_ (n := 18) (S := fun w' => w'.cell? ⟨g, 1, none⟩ = some (.slice (some ⟨gi, 0, none⟩) xs.length cap) ∧ w'.cell? ⟨gx, 6, none⟩ = some (.int .i64 a6)) (ds := []) #[false, false, false, false, false, false, false, false, false, false, false, false, false, false, false, false, false, false] (by kernel_rfl) rfl rfl ⟨(show w5.drew.cell? _ = _ from cg1), (show w5.drew.cell? _ = _ from dx6)⟩ (fun hHeld => ?_)
            refine pure_ (i := 0) (N := some 78) (v := ?_) (a' := ?_) #[true, false, false, false, false, false, false, false, false, false, false, false, false, false, false, false, false, false] rfl rfl (by kernel_rfl) (fun _ _ _ h => h) (Or.inl ⟨by rfl, ?_⟩) ?_ ?_
            rotate_left
            · intro w'
              go_simp
              with_reducible rfl
            rotate_left
            · simp only [Act.put, List.setIfInBounds_toArray, List.set_cons_zero, List.set_cons_succ, i64_w, i32_w]
              rfl
            refine pure_ (i := 1) (N := some 79) (v := ?_) (a' := ?_) #[true, true, false, false, false, false, false, false, false, false, false, false, false, false, false, false, false, false] rfl rfl (by kernel_rfl) (fun _ _ _ h => h) (Or.inl ⟨by rfl, ?_⟩) ?_ ?_
            rotate_left
            · intro w'
              go_simp
              with_reducible rfl
            rotate_left
            · simp only [Act.put, List.setIfInBounds_toArray, List.set_cons_zero, List.set_cons_succ, i64_w, i32_w]
              rfl
            refine pure_ (i := 2) (N := some 80) (v := ?_) (a' := ?_) #[true, true, true, false, false, false, false, false, false, false, false, false, false, false, false, false, false, false] rfl rfl (by kernel_rfl) (fun _ _ _ h => h) (Or.inl ⟨by rfl, ?_⟩) ?_ ?_
            rotate_left
            · intro w'
              go_simp
              with_reducible rfl
            rotate_left
            · simp only [Act.put, List.setIfInBounds_toArray, List.set_cons_zero, List.set_cons_succ, i64_w, i32_w]
              rfl
            refine pure_ (i := 4) (N := some 82) (v := ?_) (a' := ?_) #[true, true, true, false, true, false, false, false, false, false, false, false, false, false, false, false, false, false] rfl rfl (by kernel_rfl) (fun _ _ _ h => h) (Or.inl ⟨by rfl, ?_⟩) ?_ ?_
            rotate_left
            · intro w'
              go_simp
              with_reducible rfl
            rotate_left
            · simp only [Act.put, List.setIfInBounds_toArray, List.set_cons_zero, List.set_cons_succ, i64_w, i32_w]
              rfl
            refine pure_ (i := 5) (N := some 83) (v := ?_) (a' := ?_) #[true, true, true, false, true, true, false, false, false, false, false, false, false, false, false, false, false, false] rfl rfl (by kernel_rfl) (fun _ _ _ h => h) (Or.inl ⟨by rfl, ?_⟩) ?_ ?_
            rotate_left
            · intro w'
              go_simp
              with_reducible rfl
            rotate_left
            · simp only [Act.put, List.setIfInBounds_toArray, List.set_cons_zero, List.set_cons_succ, i64_w, i32_w]
              rfl
            refine pure_ (i := 6) (N := some 84) (v := ?_) (a' := ?_) #[true, true, true, false, true, true, true, false, false, false, false, false, false, false, false, false, false, false] rfl rfl (by kernel_rfl) (fun _ _ _ h => h) (Or.inl ⟨by rfl, ?_⟩) ?_ ?_
            rotate_left
            · intro w'
              go_simp
              with_reducible rfl
            rotate_left
            · simp only [Act.put, List.setIfInBounds_toArray, List.set_cons_zero, List.set_cons_succ, i64_w, i32_w]
              rfl
            refine pure_ (i := 7) (N := some 85) (v := ?_) (a' := ?_) #[true, true, true, false, true, true, true, true, false, false, false, false, false, false, false, false, false, false] rfl rfl (by kernel_rfl) (fun _ _ _ h => h) (Or.inl ⟨by rfl, ?_⟩) ?_ ?_
            rotate_left
            · intro w'
              go_simp
              with_reducible rfl
            rotate_left
            · simp only [Act.put, List.setIfInBounds_toArray, List.set_cons_zero, List.set_cons_succ, i64_w, i32_w]
              rfl
            refine pure_ (i := 9) (N := some 87) (v := ?_) (a' := ?_) #[true, true, true, false, true, true, true, true, false, true, false, false, false, false, false, false, false, false] rfl rfl (by kernel_rfl) (fun _ _ _ h => h) (Or.inl ⟨by rfl, ?_⟩) ?_ ?_
            rotate_left
            · intro w'
              go_simp
              with_reducible rfl
            rotate_left
            · simp only [Act.put, List.setIfInBounds_toArray, List.set_cons_zero, List.set_cons_succ, i64_w, i32_w]
              rfl
            refine pure_ (i := 10) (N := some 88) (v := ?_) (a' := ?_) #[true, true, true, false, true, true, true, true, false, true, true, false, false, false, false, false, false, false] rfl rfl (by kernel_rfl) (fun _ _ _ h => h) (Or.inl ⟨by rfl, ?_⟩) ?_ ?_
            rotate_left
            · intro w'
              go_simp
              with_reducible rfl
            rotate_left
            · simp only [Act.put, List.setIfInBounds_toArray, List.set_cons_zero, List.set_cons_succ, i64_w, i32_w]
              rfl
            refine take_ (i := 3) (N := some 81) (v := ?_) (a' := ?_) #[true, true, true, true, true, true, true, true, false, true, true, false, false, false, false, false, false, false] rfl rfl (by kernel_rfl) (fun _ _ _ h => h) (Or.inl ⟨by rfl, ?_⟩) hHeld ?_ ?_
            rotate_left
            · rintro w' ⟨s0, s1⟩
              go_simp
              with_reducible rfl
            rotate_left
            · simp only [Act.put, List.setIfInBounds_toArray, List.set_cons_zero, List.set_cons_succ, i64_w, i32_w]
              rfl
            refine take_ (i := 8) (N := some 86) (v := ?_) (a' := ?_) #[true, true, true, true, true, true, true, true, true, true, true, false, false, false, false, false, false, false] rfl rfl (by kernel_rfl) (fun _ _ _ h => h) (Or.inl ⟨by rfl, ?_⟩) hHeld ?_ ?_
            rotate_left
            · rintro w' ⟨s0, s1⟩
              go_simp
              with_reducible rfl
            rotate_left
            · simp only [Act.put, List.setIfInBounds_toArray, List.set_cons_zero, List.set_cons_succ, i64_w, i32_w]
              rfl
            refine pure_ (i := 12) (N := some 90) (v := ?_) (a' := ?_) #[true, true, true, true, true, true, true, true, true, true, true, false, true, false, false, false, false, false] rfl rfl (by kernel_rfl) (fun _ _ _ h => h) (Or.inl ⟨by rfl, ?_⟩) ?_ ?_
            rotate_left
            · intro w'
              go_simp
              with_reducible rfl
            rotate_left
            · simp only [Act.put, List.setIfInBounds_toArray, List.set_cons_zero, List.set_cons_succ, i64_w, i32_w]
              rfl
            refine pure_ (i := 13) (N := some 91) (v := ?_) (a' := ?_) #[true, true, true, true, true, true, true, true, true, true, true, false, true, true, false, false, false, false] rfl rfl (by kernel_rfl) (fun _ _ _ h => h) (Or.inl ⟨by rfl, ?_⟩) ?_ ?_
            rotate_left
            · intro w'
              go_simp
              with_reducible rfl
            rotate_left
            · simp only [Act.put, List.setIfInBounds_toArray, List.set_cons_zero, List.set_cons_succ, i64_w, i32_w]
              rfl
            refine take_ (i := 11) (N := some 89) (v := ?_) (a' := ?_) #[true, true, true, true, true, true, true, true, true, true, true, true, true, true, false, false, false, false] rfl rfl (by kernel_rfl) (fun _ _ _ h => h) (Or.inl ⟨by rfl, ?_⟩) hHeld ?_ ?_
            rotate_left
            · rintro w' ⟨s0, s1⟩
              go_simp
              with_reducible rfl
            rotate_left
            · simp only [Act.put, List.setIfInBounds_toArray, List.set_cons_zero, List.set_cons_succ, i64_w, i32_w]
              rfl
            refine one_ (i := 14) (N := none) #[true, true, true, true, true, true, true, true, true, true, true, true, true, true, true, false, false, false] rfl rfl (by kernel_rfl) (by decide) (fun K hK => ?_)
            refine skip_ (w1 := ?_) (by rfl) rfl ?_ ?_
            rotate_left
            · go_simp
              rfl
            refine hK.out _ _ ⟨(blk_cell (blk_far (p := ⟨gi, k * 9 + 7, none⟩) (show w5.drew.heap[g]? = _ from KG5.out) ngi (.bool true)) 1).trans rfl, (blk_cell (blk_far (p := ⟨gi, k * 9 + 7, none⟩) (show w5.drew.heap[gx]? = _ from KX5.out) nxi (.bool true)) 6).trans rfl⟩ (fun hHeld => ?_)
            clear hK K
            refine pure_ (i := 15) (N := some 92) (v := ?_) (a' := ?_) #[true, true, true, true, true, true, true, true, true, true, true, true, true, true, true, true, false, false] rfl rfl (by kernel_rfl) (fun _ _ _ h => h) (Or.inl ⟨by rfl, ?_⟩) ?_ ?_
            rotate_left
            · intro w'
              go_simp
              with_reducible rfl
            rotate_left
            · simp only [Act.put, List.setIfInBounds_toArray, List.set_cons_zero, List.set_cons_succ, i64_w, i32_w]
              rfl
            refine pure_ (i := 16) (N := some 93) (v := ?_) (a' := ?_) #[true, true, true, true, true, true, true, true, true, true, true, true, true, true, true, true, true, false] rfl rfl (by kernel_rfl) (fun _ _ _ h => h) (Or.inl ⟨by rfl, ?_⟩) ?_ ?_
            rotate_left
            · intro w'
              go_simp
              with_reducible rfl
            rotate_left
            · simp only [Act.put, List.setIfInBounds_toArray, List.set_cons_zero, List.set_cons_succ, i64_w, i32_w]
              rfl
            refine one_ (i := 17) (N := none) #[true, true, true, true, true, true, true, true, true, true, true, true, true, true, true, true, true, true] rfl rfl (by kernel_rfl) (by decide) (fun K hK => ?_)
            refine skip_ (w1 := ?_) (by rfl) rfl ?_ ?_
            rotate_left
            · go_simp
              rfl
            refine hK.out _ _ ⟨(blk_cell (blk_far (p := ⟨gi, k * 9 + 8, none⟩) (blk_far (p := ⟨gi, k * 9 + 7, none⟩) (show w5.drew.heap[g]? = _ from KG5.out) ngi (.bool true)) ngi (.int .i64 a6)) 1).trans rfl, (blk_cell (blk_far (p := ⟨gi, k * 9 + 8, none⟩) (blk_far (p := ⟨gi, k * 9 + 7, none⟩) (show w5.drew.heap[gx]? = _ from KX5.out) nxi (.bool true)) nxi (.int .i64 a6)) 6).trans rfl⟩ (fun hHeld => ?_)
            clear hK K
            refine done_ (by kernel_rfl) ?_
            have h7 := row_set KR5.out k (by omega) (by omega) 7 (by omega) (.bool true) ⟨⟨a0, a1, a2, a3, a4, a5⟩, a6, true, a8⟩ (by rw [HRX.out]; rfl)
            have h8 := row_set h7 k (by omega) (by omega) 8 (by omega) (.int .i64 a6) ⟨⟨a0, a1, a2, a3, a4, a5⟩, a6, true, a6⟩ (by rw [show rd_T99 ((begun true xs k).set (k : Int).toNat ⟨⟨a0, a1, a2, a3, a4, a5⟩, a6, true, a8⟩) k = ⟨⟨a0, a1, a2, a3, a4, a5⟩, a6, true, a8⟩ by show List.getD _ (k : Int).toNat _ = _; rw [Int.toNat_natCast, List.getD_eq_getElem?_getD, List.getElem?_set_self (by rw [begun_length]; exact hlt)]; rfl]; rfl)
            simp only [Int.toNat_natCast, List.set_set] at h8
            have KR8 := Aside0.mk (Kd.R_drew h8)
            have KG8 := Aside0.mk (show (((w5.setCell ⟨gi, k * 9 + 7, none⟩ (.bool true)).setCell ⟨gi, k * 9 + 8, none⟩ (.int .i64 a6)).drew).heap[g]? = some (cells96 rm (some ⟨gi, 0, none⟩) xs.length cap true) from blk_far (blk_far KG5.out (by have := HGI.out; show g ≠ gi; omega) _) (by have := HGI.out; show g ≠ gi; omega) _)
            have HB8 := Aside0.mk (below_drew1b ((HB5.out.setCell (p := ⟨gi, k * 9 + 7, none⟩) (by have := HBI.out; have := S2.out; show w.heap.size ≤ gi; omega) (.bool true)).setCell (p := ⟨gi, k * 9 + 8, none⟩) (by have := HBI.out; have := S2.out; show w.heap.size ≤ gi; omega) (.int .i64 a6)))
            clear h7 h8 cs7 cf7 cs8 cf8 dx0 dx6 cg1 cg2
            go_wp2
            go_roundw
            case rel => exact ⟨k + 1, by omega, by go_num, KG8, ⟨by rw [HS.out]; exact KR8.out⟩, HB8⟩
            case measure => simp [intOf]; omega
          · have e1 : decide (a6 < a0) = false := decide_eq_false h1
            clear h1
            have HT : Aside0 (atOnce true ⟨⟨a0, a1, a2, a3, a4, a5⟩, a6, a7, a8⟩ = false) := ⟨by rw [HAT.out, e0, e1]; first | rfl | simp⟩
            rw [HT.out] at HS
            go_wp2_with (first | ((with_reducible refine gate_dst (N := 9) rfl ?_); refine box_event rfl (N := 9) rfl (cs := #[.int .i64 0, .int .i64 0, .int .i64 0, .int .i64 0, .int .i64 0, .int .i64 0, .int .i64 0, .bool false, .int .i64 0]) (t := 99) (by first | (go_simp; done) | (go_simp; rfl)) ?_; intro gx hgx w3 hbx hb; have KX0 := Aside0.mk hbx; have HGX : Aside0 (wr.heap.size ≤ gx) := ⟨by omega⟩; have BX := Aside0.mk hb; clear hgx hbx hb) | ((with_reducible refine gate_store (t := 99) (p := 9) rfl ?_); refine store_event (t := 99) (p := 9) (w1 := w3.setCells gx 0 (#[.int .i64 a0, .int .i64 a1, .int .i64 a2, .int .i64 a3, .int .i64 a4, .int .i64 a5, .int .i64 a6, .bool a7, .int .i64 a8] : Array Value).toList) rfl rfl rfl (store_run 99 (.tmp 9) (.tmp 44) gx #[.int .i64 a0, .int .i64 a1, .int .i64 a2, .int .i64 a3, .int .i64 a4, .int .i64 a5, .int .i64 a6, .bool a7, .int .i64 a8] rfl rfl rfl (there_row KX0.out _ (Nat.le_refl 9)) (by kernel_rfl) (all_oneCell_toArray (cs := [.int .i64 a0, .int .i64 a1, .int .i64 a2, .int .i64 a3, .int .i64 a4, .int .i64 a5, .int .i64 a6, .bool a7, .int .i64 a8]) (by intro v hv; simp only [List.mem_cons, List.not_mem_nil, or_false] at hv; rcases hv with rfl | rfl | rfl | rfl | rfl | rfl | rfl | rfl | rfl <;> rfl))) ?_; intro w4 hw3; have KX : Aside0 (w4.heap[gx]? = some (.cells #[.int .i64 a0, .int .i64 a1, .int .i64 a2, .int .i64 a3, .int .i64 a4, .int .i64 a5, .int .i64 a6, .bool a7, .int .i64 a8] 99 (0, 0))) := ⟨by rw [hw3]; exact sets_row KX0.out rfl⟩; have BX3 : Aside0 (Below wr.heap.size wr w4) := ⟨by rw [hw3]; exact sets_below HGX.out _ 0 _ BX.out⟩; clear hw3; have cx0 : w4.cell? ⟨gx, 0, none⟩ = some (.int .i64 a0) := (blk_cell KX.out 0).trans rfl; have cx1 : w4.cell? ⟨gx, 1, none⟩ = some (.int .i64 a1) := (blk_cell KX.out 1).trans rfl; have cx2 : w4.cell? ⟨gx, 2, none⟩ = some (.int .i64 a2) := (blk_cell KX.out 2).trans rfl; have cx3 : w4.cell? ⟨gx, 3, none⟩ = some (.int .i64 a3) := (blk_cell KX.out 3).trans rfl; have cx4 : w4.cell? ⟨gx, 4, none⟩ = some (.int .i64 a4) := (blk_cell KX.out 4).trans rfl; have cx5 : w4.cell? ⟨gx, 5, none⟩ = some (.int .i64 a5) := (blk_cell KX.out 5).trans rfl; have cx6 : w4.cell? ⟨gx, 6, none⟩ = some (.int .i64 a6) := (blk_cell KX.out 6).trans rfl; have cx7 : w4.cell? ⟨gx, 7, none⟩ = some (.bool a7) := (blk_cell KX.out 7).trans rfl; have cx8 : w4.cell? ⟨gx, 8, none⟩ = some (.int .i64 a8) := (blk_cell KX.out 8).trans rfl) | (go_at_call 67; (with_reducible refine (FCA.out _ (blk_below KG.out BX3.out) (Kd.R_below KR.out BX3.out)).mono ?_); rintro e w5 ⟨rfl, hb⟩; have BX5 := Aside0.mk (below_step BX3.out hb); have KX5 := Aside0.mk (blk_below KX.out hb); have HB5 := Aside0.mk (below_step HB.out BX5.out); have KG5 := Aside0.mk (blk_below KG.out BX5.out); have KR5 := Aside0.mk (Kd.R_below KR.out BX5.out); have cg2 : w5.cell? ⟨g, 2, none⟩ = some (.bool true) := (blk_cell KG5.out 2).trans rfl; have cg1 : w5.cell? ⟨g, 1, none⟩ = some (.slice (some ⟨gi, 0, none⟩) xs.length cap) := (blk_cell KG5.out 1).trans rfl; clear hb; clear cx0 cx1 cx2 cx3 cx4 cx5 cx6 cx7 cx8; have dx0 : w5.cell? ⟨gx, 0, none⟩ = some (.int .i64 a0) := (blk_cell KX5.out 0).trans rfl; have dx6 : w5.cell? ⟨gx, 6, none⟩ = some (.int .i64 a6) := (blk_cell KX5.out 6).trans rfl))
            go_roundw
            case rel => exact ⟨k + 1, by omega, by go_num, KG5, ⟨by rw [HS.out]; exact KR5.out⟩, HB5⟩
            case measure => simp [intOf]; omega
    · obtain rfl : k = xs.length := by omega
      go_wp2_with (go_at_call 68; (with_reducible refine (now_calls (xs := begun gr xs xs.length) k_ n1 (by rw [begun_length]; exact KG.out) (by rw [begun_length]; exact KR.out) HNOW.out).mono ?_); rintro e w7 ⟨rfl, hb⟩; have KG7 := Aside0.mk (blk_below KG.out hb); have KR7 := Aside0.mk (Kd.R_below KR.out hb); have HB7 := Aside0.mk (below_step HB.out hb); clear hb)
      clear KG KR HB
      go_loopg [101] k_ (fun kq v_ wq => ∃ ys, Aside0 (loopF k_ rm gr n1 kq ys = some zs) ∧ Aside0 (ys.length = xs.length) ∧ Aside0 (kq ≤ k_) ∧ Aside0 ((wq).heap[g]? = some (cells96 rm A xs.length cap gr)) ∧ Aside0 (k99.R 99 wq w2.heap.size (fun q => q < g) (.slice A xs.length cap) ys) ∧ Aside0 (Below w.heap.size w wq))
      case atStart => exact ⟨_, HLOOP, ⟨begun_length gr xs _⟩, ⟨Nat.le_refl _⟩, KG7, KR7, HB7⟩
      case round =>
        clear KG7 KR7 HB7
        obtain ⟨ys, HLO, HYL, HK1, KG, KR, HB⟩ := hrel
        cases gk with
        | zero => exact absurd HLO.out (by simp [loopF])
        | succ k1 =>
          have H := HLO.out
          clear HLO
          simp only [loopF] at H
          have HCN : Aside0 (∀ (b : Bool) (wq : World), anyOpen ys = b → k99.C wq A xs.length ys → Calls Try.prog 69 #[.slice A xs.length cap, .func (.func 70) #[] #[]] wq fun e w' => e = .returned (.bool b) ∧ Below wq.heap.size wq w') := ⟨by intro b wq hb hC; rw [← HYL.out] at hC ⊢; exact flex_containsOpen.calls k_ A cap ys b wq hC (by have := (Kd.R_reads' KR.out).2.1; have := HYL.out; omega) (by rw [← hb]; exact containsOpen_f ys k_ HK.out (by have := HYL.out; omega))⟩
          have HRD := Aside0.mk (Kd.R_reads' KR.out).2.2
          have cg1 : wr.cell? ⟨g, 1, none⟩ = some (.slice A xs.length cap) := (blk_cell KG.out 1).trans rfl
          cases hao : anyOpen ys
          · rw [hao] at H
            obtain rfl := Option.some.inj H
            clear H
            have HAO := Aside0.mk hao
            clear hao
            go_wp2_with (go_at_call 69; (with_reducible refine (HCN.out false _ HAO.out (by rw [← HYL.out]; exact HRD.out)).mono ?_); rintro e w8 ⟨rfl, hb⟩; have KG8 := Aside0.mk (blk_below KG.out hb); have KR8 := Aside0.mk (Kd.R_below KR.out hb); have HB8 := Aside0.mk (below_step HB.out hb); have dg1 : w8.cell? ⟨g, 1, none⟩ = some (.slice A xs.length cap) := (blk_cell KG8.out 1).trans rfl; clear hb)
            clear dg1 cg1
            have HZ0 := Aside0.mk (Kd.R_nil (Kd.int .i64) 3 w8 w.heap.size (fun _ => True))
            go_loopw [11, 110] (fun v i wr => ∃ k : Nat, k ≤ xs.length ∧ i = .int .i64 k ∧ Aside0 (Kd.R (Kd.int .i64) 3 wr w.heap.size (fun _ => True) v ((ys.take k).map fun x => mx 0 x.f3)) ∧ Aside0 ((wr).heap[g]? = some (cells96 rm A xs.length cap gr)) ∧ Aside0 (k99.R 99 wr w2.heap.size (fun q => q < g) (.slice A xs.length cap) ys) ∧ Aside0 (Below w.heap.size w wr)) (fun _ i _ => xs.length - (intOf i).toNat)
            case atStart => exact ⟨0, Nat.zero_le _, rfl, HZ0, KG8, KR8, HB8⟩
            case round =>
              clear KG8 KR8 HB8 HZ0 KG KR HB HRD HCN HAO HLOOP HLONG HNOW
              obtain ⟨k, hk, rfl, KV, KG, KR, HB⟩ := hrel
              by_cases hlt : k < xs.length
              · skip
                obtain ⟨gi, cap', hv, _, _⟩ := Kd.R_form KR.out (by have := HYL.out; omega)
                injection hv with hA hq hcap
                subst hA; subst hcap; clear hq
                obtain ⟨x, hx⟩ : ∃ x, rd_T99 ys k = x := ⟨_, rfl⟩
                have hx0 := (row_get KR.out k (by omega) (by omega) 0 _ rfl).1
                simp only [Int.toNat_natCast, Nat.add_zero, hx] at hx0
                have hx1 := (row_get KR.out k (by omega) (by omega) 1 _ rfl).1
                simp only [Int.toNat_natCast, Nat.add_zero, hx] at hx1
                have hx2 := (row_get KR.out k (by omega) (by omega) 2 _ rfl).1
                simp only [Int.toNat_natCast, Nat.add_zero, hx] at hx2
                have hx3 := (row_get KR.out k (by omega) (by omega) 3 _ rfl).1
                simp only [Int.toNat_natCast, Nat.add_zero, hx] at hx3
                have hx4 := (row_get KR.out k (by omega) (by omega) 4 _ rfl).1
                simp only [Int.toNat_natCast, Nat.add_zero, hx] at hx4
                have hx5 := (row_get KR.out k (by omega) (by omega) 5 _ rfl).1
                simp only [Int.toNat_natCast, Nat.add_zero, hx] at hx5
                have hx6 := (row_get KR.out k (by omega) (by omega) 6 _ rfl).1
                simp only [Int.toNat_natCast, Nat.add_zero, hx] at hx6
                have hx7 := (row_get KR.out k (by omega) (by omega) 7 _ rfl).1
                simp only [Int.toNat_natCast, Nat.add_zero, hx] at hx7
                have hx8 := (row_get KR.out k (by omega) (by omega) 8 _ rfl).1
                simp only [Int.toNat_natCast, Nat.add_zero, hx] at hx8
                have HS : Aside0 ((ys.take (k + 1)).map (fun x => mx 0 x.f3) = (ys.take k).map (fun x => mx 0 x.f3) ++ [mx 0 x.f3]) := ⟨by rw [← hx]; exact take_told ys k (by have := HYL.out; omega)⟩
                clear hx
                obtain ⟨⟨a0, a1, a2, a3, a4, a5⟩, a6, a7, a8⟩ := x
                simp only at hx0 hx1 hx2 hx3 hx4 hx5 hx6 hx7 hx8 HS
                obtain ⟨q, hq⟩ : ∃ q, mx 0 a8 = q := ⟨_, rfl⟩
                rw [hq] at HS
                have hq_ : (if 0 < a8 then a8 else 0) = q := hq
                clear hq
                obtain ⟨l, hl⟩ : ∃ l, (ys.take k).map (fun x => mx 0 x.f3) = l := ⟨_, rfl⟩
                have HLN : Aside0 (l.length ≤ 50) := ⟨by rw [← hl, List.length_map, List.length_take]; omega⟩
                rw [hl] at KV HS
                clear hl
                obtain ⟨Av, cv, rfl⟩ := Kd.R_slice KV.out
                go_wp2_with (first | ((with_reducible refine gate_dst (N := 13) rfl ?_); refine box_event rfl (N := 13) rfl (cs := #[.int .i64 0, .int .i64 0, .int .i64 0, .int .i64 0, .int .i64 0, .int .i64 0, .int .i64 0, .bool false, .int .i64 0]) (t := 99) (by first | (go_simp; done) | (go_simp; rfl)) ?_; intro gx hgx w3 hbx hb; have KX0 := Aside0.mk hbx; have HGX : Aside0 (wr.heap.size ≤ gx) := ⟨by omega⟩; have BX := Aside0.mk hb; clear hgx hbx hb) | ((with_reducible refine gate_store (t := 99) (p := 13) rfl ?_); refine store_event (t := 99) (p := 13) (w1 := w3.setCells gx 0 (#[.int .i64 a0, .int .i64 a1, .int .i64 a2, .int .i64 a3, .int .i64 a4, .int .i64 a5, .int .i64 a6, .bool a7, .int .i64 a8] : Array Value).toList) rfl rfl rfl (store_run 99 (.tmp 13) (.tmp 113) gx #[.int .i64 a0, .int .i64 a1, .int .i64 a2, .int .i64 a3, .int .i64 a4, .int .i64 a5, .int .i64 a6, .bool a7, .int .i64 a8] rfl rfl rfl (there_row KX0.out _ (Nat.le_refl 9)) (by kernel_rfl) (all_oneCell_toArray (cs := [.int .i64 a0, .int .i64 a1, .int .i64 a2, .int .i64 a3, .int .i64 a4, .int .i64 a5, .int .i64 a6, .bool a7, .int .i64 a8]) (by intro v hv; simp only [List.mem_cons, List.not_mem_nil, or_false] at hv; rcases hv with rfl | rfl | rfl | rfl | rfl | rfl | rfl | rfl | rfl <;> rfl))) ?_; intro w4 hw3; have KX : Aside0 (w4.heap[gx]? = some (.cells #[.int .i64 a0, .int .i64 a1, .int .i64 a2, .int .i64 a3, .int .i64 a4, .int .i64 a5, .int .i64 a6, .bool a7, .int .i64 a8] 99 (0, 0))) := ⟨by rw [hw3]; exact sets_row KX0.out rfl⟩; have BX3 : Aside0 (Below wr.heap.size wr w4) := ⟨by rw [hw3]; exact sets_below HGX.out _ 0 _ BX.out⟩; clear hw3; have cx0 : w4.cell? ⟨gx, 0, none⟩ = some (.int .i64 a0) := (blk_cell KX.out 0).trans rfl; have cx1 : w4.cell? ⟨gx, 1, none⟩ = some (.int .i64 a1) := (blk_cell KX.out 1).trans rfl; have cx2 : w4.cell? ⟨gx, 2, none⟩ = some (.int .i64 a2) := (blk_cell KX.out 2).trans rfl; have cx3 : w4.cell? ⟨gx, 3, none⟩ = some (.int .i64 a3) := (blk_cell KX.out 3).trans rfl; have cx4 : w4.cell? ⟨gx, 4, none⟩ = some (.int .i64 a4) := (blk_cell KX.out 4).trans rfl; have cx5 : w4.cell? ⟨gx, 5, none⟩ = some (.int .i64 a5) := (blk_cell KX.out 5).trans rfl; have cx6 : w4.cell? ⟨gx, 6, none⟩ = some (.int .i64 a6) := (blk_cell KX.out 6).trans rfl; have cx7 : w4.cell? ⟨gx, 7, none⟩ = some (.bool a7) := (blk_cell KX.out 7).trans rfl; have cx8 : w4.cell? ⟨gx, 8, none⟩ = some (.int .i64 a8) := (blk_cell KX.out 8).trans rfl) | ((with_reducible refine gate_builtin (b := .append) (xs := #[.tmp 114, .tmp 118]) rfl ?_); at_builtin; refine Kd.R_append (Kd.int .i64) (w0 := w) w.heap.size rfl (.tmp 114) (.tmp 118) 51 3 (.int .i64 0) 8 rfl Try.underlying51 info3 rfl (by decide) (by omega) _ l q [.int .i64 q] (fun _ => True) (fun _ => False) rfl rfl ?aP (fun _ hk => hk.elim) ?aF ?aO ?aB ?aS ?aL ?_; (case aP => exact rfl); (case aB => exact below_step HB.out BX3.out); (case aF => exact (fun _ _ => trivial)); (case aO => exact Kd.R_below KV.out BX3.out); (case aS => exact (below_step HB.out BX3.out).size); (case aL => have := HLN.out; omega); intro v9 w9 ho hb hg hat; have KV9 := Aside0.mk ho; have HB9 := Aside0.mk hb; have KG9 := Aside0.mk (blk_grown (blk_below KG.out BX3.out) hg (Kd.R_ne (Kd.R_below KV.out BX3.out) (blk_below KG.out BX3.out) (by decide))); have KR9 := Aside0.mk (Kd.R_grown1 (Kd.R_below KR.out BX3.out) rfl hg (fun he => by obtain ⟨cc, hcc⟩ := Kd.R_typed (Kd.R_below KR.out BX3.out) gi rfl; exact Kd.R_ne (Kd.R_below KV.out BX3.out) hcc (by decide) he.symm)); clear ho hb hg hat))
                rw [← HS.out] at KV9
                go_roundw
                case rel => exact ⟨k + 1, by omega, by go_num, KV9, KG9, KR9, HB9⟩
                case measure => simp [intOf]; omega
              · obtain rfl : k = xs.length := by omega
                go_wp2
                go_ret
                refine ⟨_, rfl, ?_, HB.out⟩
                have h := KV.out
                rw [List.take_of_length_le (by have := HYL.out; omega)] at h
                exact h
          · rw [hao] at H
            have HAO := Aside0.mk hao
            clear hao
            replace H := Option.bind_eq_some_iff.mp H
            obtain ⟨ys2, HT0, H⟩ := H
            have HT := Aside0.mk HT0
            have HLO := Aside0.mk H
            have HNE : Aside0 (0 < ys.length) := ⟨by cases ys with | nil => exact absurd HAO.out (by decide) | cons _ _ => simp⟩
            clear HT0 H
            obtain ⟨gi, cap', hv, _, _⟩ := Kd.R_form KR.out HNE.out
            injection hv with hA hq hcap
            subst hA; subst hcap; clear hq
            have HTC : Aside0 (∀ wq : World, (wq).heap[g]? = some (cells96 rm (some ⟨gi, 0, none⟩) xs.length cap gr) → k99.R 99 wq w2.heap.size (fun q => q < g) (.slice (some ⟨gi, 0, none⟩) xs.length cap) ys → Calls Try.prog 71 #[.pointer (some ⟨g, 0, none⟩), .int .i64 n1] wq fun e w' => e = .returned (.tuple #[]) ∧ (w').heap[g]? = some (cells96 rm (some ⟨gi, 0, none⟩) xs.length cap gr) ∧ k99.R 99 w' w2.heap.size (fun q => q < g) (.slice (some ⟨gi, 0, none⟩) xs.length cap) ys2 ∧ Below w2.heap.size wq w') := ⟨by intro wq h1 h2; rw [← HYL.out] at h1 h2 ⊢; exact turnF_calls k_ g gi cap w2.heap.size rm n1 ys ys2 gr wq h1 h2 (by have := HYL.out; omega) HNE.out HT.out⟩
            go_wp2_with (first | (go_at_call 69; (with_reducible refine (HCN.out true _ HAO.out (by rw [← HYL.out]; exact HRD.out)).mono ?_); rintro e w8 ⟨rfl, hb⟩; have KG8 := Aside0.mk (blk_below KG.out hb); have KR8 := Aside0.mk (Kd.R_below KR.out hb); have HB8 := Aside0.mk (below_step HB.out hb); have dg1 : w8.cell? ⟨g, 1, none⟩ = some (.slice (some ⟨gi, 0, none⟩) xs.length cap) := (blk_cell KG8.out 1).trans rfl; clear hb) | (go_at_call 71; (with_reducible refine (HTC.out _ KG8.out KR8.out).mono ?_); rintro e w9 ⟨rfl, h1, h2, h3⟩; have KG9 := Aside0.mk h1; have KR9 := Aside0.mk h2; have HB9 := Aside0.mk (HB8.out.trans ⟨h3.os, h3.tape, h3.output, h3.size, fun q hq => h3.block q (by have := S2.out; omega)⟩ : Below w.heap.size w w9); clear h1 h2 h3))
            go_roundg k1
            case measure => have := HK1.out; omega
            case rel => exact ⟨ys2, HLO, ⟨by rw [turnF_length HT.out]; exact HYL.out⟩, ⟨by have := HK1.out; omega⟩, KG9, KR9, HB9⟩
end Go.Proofs.Ytaejmgdpnnhpmaa.QFlex
