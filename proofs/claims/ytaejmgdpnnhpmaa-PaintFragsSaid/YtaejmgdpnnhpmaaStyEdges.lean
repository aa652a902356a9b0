/- margins.Edges, walked by hand: of four properties, the numbers that they tell. -/
import Derived.Test.YtaejmgdpnnhpmaaQStyx2
namespace Go.Proofs.Ytaejmgdpnnhpmaa.QSty
open Go.RowKit Go.Proofs.YtaejmgdpnnhpmaaW.PrintWords Go.Proofs.YtaejmgdpnnhpmaaW.PrintLast Go.Proofs.YtaejmgdpnnhpmaaW.PrintMore
set_option linter.unusedVariables false
set_option linter.unusedSimpArgs false
def cut (n : Int) : Int := if n > 16777216 then 16777216 else (if n < (-16777216) then (-16777216) else n)
theorem cut_le (n : Int) : -16777216 ≤ cut n ∧ cut n ≤ 16777216 := by
  unfold cut
  repeat' split
  all_goals omega
theorem cut_a (n : Int) : fix_Cut.f n = some (cut n) := by
  unfold fix_Cut.f cut mn mx
  congr 1
  repeat' split
  all_goals omega
theorem cut_b (n : Int) : clerestoryref3_Cut.f n = some (cut n) := by
  unfold clerestoryref3_Cut.f cut
  repeat' split
  all_goals rfl
theorem tdiv_le (n d : Int) : -(n.natAbs : Int) ≤ n.tdiv d ∧ n.tdiv d ≤ (n.natAbs : Int) := by
  have h := Int.natAbs_tdiv n d
  have h2 : n.natAbs.div d.natAbs ≤ n.natAbs := Nat.div_le_self _ _
  omega
theorem floor_a (n d : Int) (h0 : -4611686018427387904 ≤ n) (h1 : n ≤ 4611686018427387904) (hd : d ≠ 0) : fix_floor.f n d = some (n.fdiv d) := by
  have hb := tdiv_le n d
  have w0 : wrap64 (n.tdiv d) = n.tdiv d := by unfold wrap64; omega
  have w1 : wrap64 (n.tdiv d - 1) = n.tdiv d - 1 := by unfold wrap64; omega
  unfold fix_floor.f
  rw [if_neg hd, w0, w1, Int.fdiv_eq_tdiv]
  by_cases h : d ∣ n
  · rw [if_pos (Int.tmod_eq_zero_of_dvd h), if_pos h]; simp
  · rw [if_neg (fun e => h (Int.dvd_iff_tmod_eq_zero.mpr e)), if_neg h]
    rcases (by omega : n < 0 ∨ 0 ≤ n) with a | a <;> rcases (by omega : d < 0 ∨ 0 < d) with b | b
    · rw [if_neg (by simp [a, b]), if_neg (by omega), if_neg (by omega), Int.sign_eq_neg_one_of_neg b]; congr 1; omega
    · rw [if_pos (by simp [a]; omega), if_neg (by omega), if_pos (by omega), Int.sign_eq_one_of_pos b]
    · rw [if_pos (by simp [b]; omega), if_pos a, if_neg (by omega)]
    · rw [if_neg (by simp; omega), if_pos a, if_pos (by omega)]; congr 1; omega
theorem down_b (n d : Int) (h0 : -4611686018427387904 ≤ n) (h1 : n ≤ 4611686018427387904) (hd : 0 < d) : clerestoryref3_down.f n d = some (n.fdiv d) := by
  have hb := tdiv_le n d
  have w0 : wrap64 (n.tdiv d) = n.tdiv d := by unfold wrap64; omega
  have w1 : wrap64 (n.tdiv d - 1) = n.tdiv d - 1 := by unfold wrap64; omega
  unfold clerestoryref3_down.f
  rw [if_neg (by omega), w0, w1, Int.fdiv_eq_tdiv]
  have hs := Int.sign_tmod n d
  by_cases h : d ∣ n
  · rw [if_neg (by rw [Int.tmod_eq_zero_of_dvd h]; omega), if_pos h]; simp
  · rw [if_neg h] at hs ⊢
    rcases (by omega : n < 0 ∨ 0 ≤ n) with a | a
    · rw [Int.sign_eq_neg_one_of_neg a] at hs
      rw [if_pos (Int.neg_of_sign_eq_neg_one hs), if_neg (by omega), if_pos (by omega), Int.sign_eq_one_of_pos hd]
    · rw [if_neg (by have := Int.tmod_nonneg d a; omega), if_pos a, if_pos (by omega)]; simp
theorem mul_le (a b : Int) (ha : -16777216 ≤ a ∧ a ≤ 16777216) (hb : -16777216 ≤ b ∧ b ≤ 16777216) : -281474976710656 ≤ a * b ∧ a * b ≤ 281474976710656 := by
  have h : (a * b).natAbs ≤ 16777216 * 16777216 := by rw [Int.natAbs_mul]; exact Nat.mul_le_mul (by omega) (by omega)
  omega
def part (n up down : Int) : Int := if cut down = 0 then 0 else cut ((cut n * cut up).fdiv (cut down))
theorem part_a (n up down : Int) : fix_Part.f n up down = some (part n up down) := by
  unfold fix_Part.f part
  simp only [cut_a, Option.bind_some]
  have hn := cut_le n
  have hu := cut_le up
  have hd := cut_le down
  have hm := mul_le _ _ hn hu
  by_cases h : cut down = 0
  · rw [if_pos h, if_pos h]
  · rw [if_neg h, if_neg h]
    have w : wrap64 (cut n * cut up) = cut n * cut up := by unfold wrap64; omega
    rw [w, floor_a _ _ (by omega) (by omega) h]
    rfl
theorem part_b (n up down : Int) : clerestoryref3_Part.f n up down = some (part n up down) := by
  unfold clerestoryref3_Part.f part
  simp only [cut_b, Option.bind_some]
  have hn := cut_le n
  have hu := cut_le up
  have hd := cut_le down
  have hm := mul_le _ _ hn hu
  by_cases h : cut down = 0
  · rw [if_pos h, if_pos h]
  · rw [if_neg h, if_neg h]
    have w : wrap64 (cut n * cut up) = cut n * cut up := by unfold wrap64; omega
    by_cases hlt : cut down < 0
    · have w1 : wrap64 (-cut up) = -cut up := by unfold wrap64; omega
      have w2 : wrap64 (-cut down) = -cut down := by unfold wrap64; omega
      have w3 : wrap64 (cut n * -cut up) = -(cut n * cut up) := by rw [Int.mul_neg]; unfold wrap64; omega
      rw [if_pos hlt, w1, w2, w3, down_b _ _ (by omega) (by omega) (by omega), Int.neg_fdiv_neg]
      rfl
    · rw [if_neg hlt, w, down_b _ _ (by omega) (by omega) (by omega)]
      rfl

/-- What a value is of a base. -/
def ofv (k n base : Int) : Int × Bool := if k = 2 then (cut n, true) else if k = 3 then (part base n 10000, true) else (0, false)
theorem of_a (a b base : Int) : fix_Of.f a b base = some ((ofv a b base).1, (ofv a b base).2) := by
  unfold fix_Of.f ofv
  simp only [cut_a, part_a, Option.bind_some]
  repeat' split
  all_goals rfl
theorem of_b (a b base : Int) : clerestoryref3_Of.f a b base = some ((ofv a b base).1, (ofv a b base).2) := by
  unfold clerestoryref3_Of.f ofv
  simp only [cut_b, part_b, Option.bind_some]
  repeat' split
  all_goals rfl
/-- A style's value. -/
def sty (xs : List Int) : Value := .agg (nums .i64 xs).toArray
/-- The length of a property. -/
def len1 (xs : List Int) (p room : Int) : Int := (ofv (xs.getD (p.toNat * 2) 0) (xs.getD (p.toNat * 2 + 1) 0) room).1
def edg1 (xs : List Int) (p room : Int) : Int := if 0 ≤ p then (if p < 59 then len1 xs p room else 0) else 0
def st4 (k : Nat) (e0 e1 e2 e3 : Int) : Array Value := #[.int .i64 (if 0 < k then e0 else 0), .int .i64 (if 1 < k then e1 else 0), .int .i64 (if 2 < k then e2 else 0), .int .i64 (if 3 < k then e3 else 0)]
theorem sty_at {w : World} {g : Nat} {a : Array Value} {t : TypeId} {xs : List Int} (h : w.heap[g]? = some (.cells a t (0, 0))) (ha : (nums .i64 xs).toArray = a) (j : Nat) (hj : j < xs.length) : w.cell? ⟨g, j, none⟩ = some (.int .i64 (xs.getD j 0)) := by
  rw [blk_cell h, ← ha]
  simp [nums, hj]
set_option maxHeartbeats 8000000 in
set_option maxRecDepth 100000 in
theorem margins_Edges.calls (xs : List Int) (p0 p1 p2 p3 room : Int) (hl : xs.length = 118) (w : World) :
    Calls Try.prog 14 #[sty xs, .agg #[.int .i64 p0, .int .i64 p1, .int .i64 p2, .int .i64 p3], .int .i64 room] w fun e w' =>
      e = .returned (.agg #[.int .i64 (edg1 xs p0 room), .int .i64 (edg1 xs p1 room), .int .i64 (edg1 xs p2 room), .int .i64 (edg1 xs p3 room)]) ∧ Below w.heap.size w w' := by
  unfold sty
  obtain ⟨a, ha⟩ : ∃ a, (nums .i64 xs).toArray = a := ⟨_, rfl⟩
  have hsz : a.size = 118 := by rw [← ha]; simp [nums, hl]
  have HA := Aside0.mk ha
  have HL := Aside0.mk hl
  rw [ha]
  clear ha hl
  obtain ⟨e0, he0⟩ : ∃ e, edg1 xs p0 room = e := ⟨_, rfl⟩
  obtain ⟨e1, he1⟩ : ∃ e, edg1 xs p1 room = e := ⟨_, rfl⟩
  obtain ⟨e2, he2⟩ : ∃ e, edg1 xs p2 room = e := ⟨_, rfl⟩
  obtain ⟨e3, he3⟩ : ∃ e, edg1 xs p3 room = e := ⟨_, rfl⟩
  rw [he0, he1, he2, he3]
  have H0 := Aside0.mk he0
  have H1 := Aside0.mk he1
  have H2 := Aside0.mk he2
  have H3 := Aside0.mk he3
  clear he0 he1 he2 he3
  have HB := Aside0.mk (Below.refl w.heap.size w)
  go_enter Try.func14, Try.ntmps14
  go_wp2_with (first
    | ((with_reducible refine gate_dst (N := 3) rfl ?_); refine box_event rfl (N := 3) rfl (cs := a) (t := 25) (by first | (go_simp; done) | (go_simp; rfl)) ?_; intro gs hgs w1 hbx hb; have HS := Aside0.mk hbx; have HGs := Aside0.mk hgs; have HB1 := Aside0.mk (below_step HB.out hb); clear hgs hbx hb)
    | ((with_reducible refine gate_dst (N := 4) rfl ?_); refine box_event rfl (N := 4) rfl (cs := #[.int .i64 p0, .int .i64 p1, .int .i64 p2, .int .i64 p3]) (t := 26) (by first | (go_simp; done) | (go_simp; rfl)) ?_; intro go hgo w2 hbx hb; have HO := Aside0.mk hbx; have HS2 := Aside0.mk (blk_below HS.out hb); have HB2 := Aside0.mk (below_step HB1.out hb); clear hgo hbx hb)
    | ((with_reducible refine gate_dst (N := 6) rfl ?_); refine box_event rfl (N := 6) rfl (cs := #[.int .i64 0, .int .i64 0, .int .i64 0, .int .i64 0]) (t := 28) (by first | (go_simp; done) | (go_simp; rfl)) ?_; intro gr hgr w3 hbx hb; have HR := Aside0.mk hbx; have HGr := Aside0.mk hgr; have HS3 := Aside0.mk (blk_below HS2.out hb); have HO3 := Aside0.mk (blk_below HO.out hb); have HB3 := Aside0.mk (below_step HB2.out hb); clear hgr hbx hb)
    | ((with_reducible refine gate_dst (N := 7) rfl ?_); refine box_event rfl (N := 7) rfl (cs := #[.int .i64 0, .int .i64 0, .int .i64 0, .int .i64 0]) (t := 26) (by first | (go_simp; done) | (go_simp; rfl)) ?_; intro gn hgn w4 hbx hb; have HN := Aside0.mk hbx; have HGn := Aside0.mk hgn; have HS4 := Aside0.mk (blk_below HS3.out hb); have HO4 := Aside0.mk (blk_below HO3.out hb); have HR4 := Aside0.mk (blk_below HR.out hb); have HB4 := Aside0.mk (below_step HB3.out hb); clear hgn hbx hb)
    | ((with_reducible refine gate_dst (N := 10) rfl ?_); refine wpList_load_row rfl 26 _ rfl go rfl 26 _ (0, 0) _ HO4.out Try.underlying26 rfl (by kernel_rfl) ?_))
  have HRB := Aside0.mk (show w.heap.size ≤ gr ∧ w.heap.size ≤ gn ∧ gs ≠ gn ∧ gr ≠ gn from by
    have h1 := HB2.out.size; have h2 := HB3.out.size; have h3 := HGr.out; have h4 := HGn.out; have h5 := blk_lt HS3.out; have h6 := blk_lt HR.out
    exact ⟨by omega, by omega, by omega, by omega⟩)
  go_loopw [11] (fun i wr => ∃ k : Nat, k ≤ 4 ∧ i = .int .i64 k ∧ Aside0 (wr.heap[gn]? = some (.cells (st4 k e0 e1 e2 e3) 26 (0, 0))) ∧ Aside0 (wr.heap[gs]? = some (.cells a 25 (0, 0))) ∧ Aside0 (wr.heap[gr]? = some (.cells #[.int .i64 0, .int .i64 0, .int .i64 0, .int .i64 0] 28 (0, 0))) ∧ Aside0 (Below w.heap.size w wr)) (fun i _ => 4 - (intOf i).toNat)
  case atStart => exact ⟨0, by omega, rfl, HN, HS4, HR4, HB4⟩
  case round =>
    obtain ⟨k, hk, rfl, HNr, HSr, HRr, HBr⟩ := hrel
    rcases (by omega : k = 0 ∨ k = 1 ∨ k = 2 ∨ k = 3 ∨ k = 4) with rfl | rfl | rfl | rfl | rfl
    · by_cases c1 : 0 ≤ p0
      · have c1b : decide (0 ≤ p0) = true := decide_eq_true c1
        by_cases c2 : p0 < 59
        · have c2b : decide (p0 < 59) = true := decide_eq_true c2
          have hv0 := sty_at HSr.out HA.out (p0.toNat * 2) (by have := HL.out; omega)
          have hv1 := sty_at HSr.out HA.out (p0.toNat * 2 + 1) (by have := HL.out; omega)
          have HC := Aside0.mk (fun w => fix_Of.calls (xs.getD (p0.toNat * 2) 0) (xs.getD (p0.toNat * 2 + 1) 0) room _ _ w (of_a _ _ _))
          have HE : Aside0 ((ofv (xs.getD (p0.toNat * 2) 0) (xs.getD (p0.toNat * 2 + 1) 0) room).1 = e0) := ⟨by rw [← H0.out]; unfold edg1 len1; rw [if_pos c1, if_pos c2]⟩
          rw [HE.out] at HC
          have q1 := eq_true c1
          have q2 := eq_true c2
          clear c1 c2
          have hn0 := (blk_cell HNr.out 0).trans rfl
          have hnf := blk_frozen HNr.out 0
          go_wp2_with (first | ((with_reducible refine gate_dst (N := 14) rfl ?_); (refine Kd.event_run rfl (v := .int .i64 p0) (w1 := wr) ?hr ?_; (case hr => first | rfl | (go_simp; done) | (go_simp; rfl)))) | (go_at_call 47; (refine (HC.out _).mono ?_); rintro e w5 ⟨rfl, hb⟩; have HN5 := Aside0.mk (blk_below HNr.out hb); have HS5 := Aside0.mk (blk_below HSr.out hb); have HR5 := Aside0.mk (blk_below HRr.out hb); have HB5 := Aside0.mk (below_step HBr.out hb); clear hb; have hn5 := (blk_cell HN5.out 0).trans rfl; have hf5 := blk_frozen HN5.out 0))
          go_roundw
          case rel => exact ⟨1, by omega, by go_num, ⟨blk_put HN5.out 0 _ (by simp [st4])⟩, ⟨blk_far HS5.out HRB.out.2.2.1 _⟩, ⟨blk_far HR5.out HRB.out.2.2.2 _⟩, ⟨HB5.out.setCell HRB.out.2.1 _⟩⟩
          case measure => simp [intOf]
        · have c2b : decide (p0 < 59) = false := decide_eq_false c2
          have HE : Aside0 (e0 = 0) := ⟨by rw [← H0.out]; unfold edg1; rw [if_pos c1, if_neg c2]⟩
          clear c1 c2
          go_wp2_with ((with_reducible refine gate_dst (N := 14) rfl ?_); (refine Kd.event_run rfl (v := .int .i64 p0) (w1 := wr) ?hr ?_; (case hr => first | rfl | (go_simp; done) | (go_simp; rfl))))
          go_roundw
          case rel => exact ⟨1, by omega, by go_num, ⟨by have h := HNr.out; have h2 := HE.out; subst h2; simpa [st4] using h⟩, HSr, HRr, HBr⟩
          case measure => simp [intOf]
      · have c1b : decide (0 ≤ p0) = false := decide_eq_false c1
        have HE : Aside0 (e0 = 0) := ⟨by rw [← H0.out]; unfold edg1; rw [if_neg c1]⟩
        clear c1
        go_wp2_with ((with_reducible refine gate_dst (N := 14) rfl ?_); (refine Kd.event_run rfl (v := .int .i64 p0) (w1 := wr) ?hr ?_; (case hr => first | rfl | (go_simp; done) | (go_simp; rfl))))
        go_roundw
        case rel => exact ⟨1, by omega, by go_num, ⟨by have h := HNr.out; have h2 := HE.out; subst h2; simpa [st4] using h⟩, HSr, HRr, HBr⟩
        case measure => simp [intOf]
    · by_cases c1 : 0 ≤ p1
      · have c1b : decide (0 ≤ p1) = true := decide_eq_true c1
        by_cases c2 : p1 < 59
        · have c2b : decide (p1 < 59) = true := decide_eq_true c2
          have hv0 := sty_at HSr.out HA.out (p1.toNat * 2) (by have := HL.out; omega)
          have hv1 := sty_at HSr.out HA.out (p1.toNat * 2 + 1) (by have := HL.out; omega)
          have HC := Aside0.mk (fun w => fix_Of.calls (xs.getD (p1.toNat * 2) 0) (xs.getD (p1.toNat * 2 + 1) 0) room _ _ w (of_a _ _ _))
          have HE : Aside0 ((ofv (xs.getD (p1.toNat * 2) 0) (xs.getD (p1.toNat * 2 + 1) 0) room).1 = e1) := ⟨by rw [← H1.out]; unfold edg1 len1; rw [if_pos c1, if_pos c2]⟩
          rw [HE.out] at HC
          have q1 := eq_true c1
          have q2 := eq_true c2
          clear c1 c2
          have hn0 := (blk_cell HNr.out 1).trans rfl
          have hnf := blk_frozen HNr.out 1
          go_wp2_with (first | ((with_reducible refine gate_dst (N := 14) rfl ?_); (refine Kd.event_run rfl (v := .int .i64 p1) (w1 := wr) ?hr ?_; (case hr => first | rfl | (go_simp; done) | (go_simp; rfl)))) | (go_at_call 47; (refine (HC.out _).mono ?_); rintro e w5 ⟨rfl, hb⟩; have HN5 := Aside0.mk (blk_below HNr.out hb); have HS5 := Aside0.mk (blk_below HSr.out hb); have HR5 := Aside0.mk (blk_below HRr.out hb); have HB5 := Aside0.mk (below_step HBr.out hb); clear hb; have hn5 := (blk_cell HN5.out 1).trans rfl; have hf5 := blk_frozen HN5.out 1))
          go_roundw
          case rel => exact ⟨2, by omega, by go_num, ⟨blk_put HN5.out 1 _ (by simp [st4])⟩, ⟨blk_far HS5.out HRB.out.2.2.1 _⟩, ⟨blk_far HR5.out HRB.out.2.2.2 _⟩, ⟨HB5.out.setCell HRB.out.2.1 _⟩⟩
          case measure => simp [intOf]
        · have c2b : decide (p1 < 59) = false := decide_eq_false c2
          have HE : Aside0 (e1 = 0) := ⟨by rw [← H1.out]; unfold edg1; rw [if_pos c1, if_neg c2]⟩
          clear c1 c2
          go_wp2_with ((with_reducible refine gate_dst (N := 14) rfl ?_); (refine Kd.event_run rfl (v := .int .i64 p1) (w1 := wr) ?hr ?_; (case hr => first | rfl | (go_simp; done) | (go_simp; rfl))))
          go_roundw
          case rel => exact ⟨2, by omega, by go_num, ⟨by have h := HNr.out; have h2 := HE.out; subst h2; simpa [st4] using h⟩, HSr, HRr, HBr⟩
          case measure => simp [intOf]
      · have c1b : decide (0 ≤ p1) = false := decide_eq_false c1
        have HE : Aside0 (e1 = 0) := ⟨by rw [← H1.out]; unfold edg1; rw [if_neg c1]⟩
        clear c1
        go_wp2_with ((with_reducible refine gate_dst (N := 14) rfl ?_); (refine Kd.event_run rfl (v := .int .i64 p1) (w1 := wr) ?hr ?_; (case hr => first | rfl | (go_simp; done) | (go_simp; rfl))))
        go_roundw
        case rel => exact ⟨2, by omega, by go_num, ⟨by have h := HNr.out; have h2 := HE.out; subst h2; simpa [st4] using h⟩, HSr, HRr, HBr⟩
        case measure => simp [intOf]
    · by_cases c1 : 0 ≤ p2
      · have c1b : decide (0 ≤ p2) = true := decide_eq_true c1
        by_cases c2 : p2 < 59
        · have c2b : decide (p2 < 59) = true := decide_eq_true c2
          have hv0 := sty_at HSr.out HA.out (p2.toNat * 2) (by have := HL.out; omega)
          have hv1 := sty_at HSr.out HA.out (p2.toNat * 2 + 1) (by have := HL.out; omega)
          have HC := Aside0.mk (fun w => fix_Of.calls (xs.getD (p2.toNat * 2) 0) (xs.getD (p2.toNat * 2 + 1) 0) room _ _ w (of_a _ _ _))
          have HE : Aside0 ((ofv (xs.getD (p2.toNat * 2) 0) (xs.getD (p2.toNat * 2 + 1) 0) room).1 = e2) := ⟨by rw [← H2.out]; unfold edg1 len1; rw [if_pos c1, if_pos c2]⟩
          rw [HE.out] at HC
          have q1 := eq_true c1
          have q2 := eq_true c2
          clear c1 c2
          have hn0 := (blk_cell HNr.out 2).trans rfl
          have hnf := blk_frozen HNr.out 2
          go_wp2_with (first | ((with_reducible refine gate_dst (N := 14) rfl ?_); (refine Kd.event_run rfl (v := .int .i64 p2) (w1 := wr) ?hr ?_; (case hr => first | rfl | (go_simp; done) | (go_simp; rfl)))) | (go_at_call 47; (refine (HC.out _).mono ?_); rintro e w5 ⟨rfl, hb⟩; have HN5 := Aside0.mk (blk_below HNr.out hb); have HS5 := Aside0.mk (blk_below HSr.out hb); have HR5 := Aside0.mk (blk_below HRr.out hb); have HB5 := Aside0.mk (below_step HBr.out hb); clear hb; have hn5 := (blk_cell HN5.out 2).trans rfl; have hf5 := blk_frozen HN5.out 2))
          go_roundw
          case rel => exact ⟨3, by omega, by go_num, ⟨blk_put HN5.out 2 _ (by simp [st4])⟩, ⟨blk_far HS5.out HRB.out.2.2.1 _⟩, ⟨blk_far HR5.out HRB.out.2.2.2 _⟩, ⟨HB5.out.setCell HRB.out.2.1 _⟩⟩
          case measure => simp [intOf]
        · have c2b : decide (p2 < 59) = false := decide_eq_false c2
          have HE : Aside0 (e2 = 0) := ⟨by rw [← H2.out]; unfold edg1; rw [if_pos c1, if_neg c2]⟩
          clear c1 c2
          go_wp2_with ((with_reducible refine gate_dst (N := 14) rfl ?_); (refine Kd.event_run rfl (v := .int .i64 p2) (w1 := wr) ?hr ?_; (case hr => first | rfl | (go_simp; done) | (go_simp; rfl))))
          go_roundw
          case rel => exact ⟨3, by omega, by go_num, ⟨by have h := HNr.out; have h2 := HE.out; subst h2; simpa [st4] using h⟩, HSr, HRr, HBr⟩
          case measure => simp [intOf]
      · have c1b : decide (0 ≤ p2) = false := decide_eq_false c1
        have HE : Aside0 (e2 = 0) := ⟨by rw [← H2.out]; unfold edg1; rw [if_neg c1]⟩
        clear c1
        go_wp2_with ((with_reducible refine gate_dst (N := 14) rfl ?_); (refine Kd.event_run rfl (v := .int .i64 p2) (w1 := wr) ?hr ?_; (case hr => first | rfl | (go_simp; done) | (go_simp; rfl))))
        go_roundw
        case rel => exact ⟨3, by omega, by go_num, ⟨by have h := HNr.out; have h2 := HE.out; subst h2; simpa [st4] using h⟩, HSr, HRr, HBr⟩
        case measure => simp [intOf]
    · by_cases c1 : 0 ≤ p3
      · have c1b : decide (0 ≤ p3) = true := decide_eq_true c1
        by_cases c2 : p3 < 59
        · have c2b : decide (p3 < 59) = true := decide_eq_true c2
          have hv0 := sty_at HSr.out HA.out (p3.toNat * 2) (by have := HL.out; omega)
          have hv1 := sty_at HSr.out HA.out (p3.toNat * 2 + 1) (by have := HL.out; omega)
          have HC := Aside0.mk (fun w => fix_Of.calls (xs.getD (p3.toNat * 2) 0) (xs.getD (p3.toNat * 2 + 1) 0) room _ _ w (of_a _ _ _))
          have HE : Aside0 ((ofv (xs.getD (p3.toNat * 2) 0) (xs.getD (p3.toNat * 2 + 1) 0) room).1 = e3) := ⟨by rw [← H3.out]; unfold edg1 len1; rw [if_pos c1, if_pos c2]⟩
          rw [HE.out] at HC
          have q1 := eq_true c1
          have q2 := eq_true c2
          clear c1 c2
          have hn0 := (blk_cell HNr.out 3).trans rfl
          have hnf := blk_frozen HNr.out 3
          go_wp2_with (first | ((with_reducible refine gate_dst (N := 14) rfl ?_); (refine Kd.event_run rfl (v := .int .i64 p3) (w1 := wr) ?hr ?_; (case hr => first | rfl | (go_simp; done) | (go_simp; rfl)))) | (go_at_call 47; (refine (HC.out _).mono ?_); rintro e w5 ⟨rfl, hb⟩; have HN5 := Aside0.mk (blk_below HNr.out hb); have HS5 := Aside0.mk (blk_below HSr.out hb); have HR5 := Aside0.mk (blk_below HRr.out hb); have HB5 := Aside0.mk (below_step HBr.out hb); clear hb; have hn5 := (blk_cell HN5.out 3).trans rfl; have hf5 := blk_frozen HN5.out 3))
          go_roundw
          case rel => exact ⟨4, by omega, by go_num, ⟨blk_put HN5.out 3 _ (by simp [st4])⟩, ⟨blk_far HS5.out HRB.out.2.2.1 _⟩, ⟨blk_far HR5.out HRB.out.2.2.2 _⟩, ⟨HB5.out.setCell HRB.out.2.1 _⟩⟩
          case measure => simp [intOf]
        · have c2b : decide (p3 < 59) = false := decide_eq_false c2
          have HE : Aside0 (e3 = 0) := ⟨by rw [← H3.out]; unfold edg1; rw [if_pos c1, if_neg c2]⟩
          clear c1 c2
          go_wp2_with ((with_reducible refine gate_dst (N := 14) rfl ?_); (refine Kd.event_run rfl (v := .int .i64 p3) (w1 := wr) ?hr ?_; (case hr => first | rfl | (go_simp; done) | (go_simp; rfl))))
          go_roundw
          case rel => exact ⟨4, by omega, by go_num, ⟨by have h := HNr.out; have h2 := HE.out; subst h2; simpa [st4] using h⟩, HSr, HRr, HBr⟩
          case measure => simp [intOf]
      · have c1b : decide (0 ≤ p3) = false := decide_eq_false c1
        have HE : Aside0 (e3 = 0) := ⟨by rw [← H3.out]; unfold edg1; rw [if_neg c1]⟩
        clear c1
        go_wp2_with ((with_reducible refine gate_dst (N := 14) rfl ?_); (refine Kd.event_run rfl (v := .int .i64 p3) (w1 := wr) ?hr ?_; (case hr => first | rfl | (go_simp; done) | (go_simp; rfl))))
        go_roundw
        case rel => exact ⟨4, by omega, by go_num, ⟨by have h := HNr.out; have h2 := HE.out; subst h2; simpa [st4] using h⟩, HSr, HRr, HBr⟩
        case measure => simp [intOf]
    · have hr0 : wr.cell? ⟨gn, 0, none⟩ = some (.int .i64 e0) := (blk_cell HNr.out 0).trans rfl
      have hr1 : wr.cell? ⟨gn, 1, none⟩ = some (.int .i64 e1) := (blk_cell HNr.out 1).trans rfl
      have hr2 : wr.cell? ⟨gn, 2, none⟩ = some (.int .i64 e2) := (blk_cell HNr.out 2).trans rfl
      have hr3 : wr.cell? ⟨gn, 3, none⟩ = some (.int .i64 e3) := (blk_cell HNr.out 3).trans rfl
      have hq0 : wr.cell? ⟨gr, 0, none⟩ = some (.int .i64 0) := (blk_cell HRr.out 0).trans rfl
      have hq1 : wr.cell? ⟨gr, 1, none⟩ = some (.int .i64 0) := (blk_cell HRr.out 1).trans rfl
      have hq2 : wr.cell? ⟨gr, 2, none⟩ = some (.int .i64 0) := (blk_cell HRr.out 2).trans rfl
      have hq3 : wr.cell? ⟨gr, 3, none⟩ = some (.int .i64 0) := (blk_cell HRr.out 3).trans rfl
      have hf0 := blk_frozen HRr.out 0
      have hf1 := blk_frozen HRr.out 1
      have hf2 := blk_frozen HRr.out 2
      have hf3 := blk_frozen HRr.out 3
      go_wp2
      refine bodyPost_ret (results_cell_row rfl _ _ gr 28 #[.int .i64 e0, .int .i64 e1, .int .i64 e2, .int .i64 e3] (0, 0) _ rfl ?_ Try.underlying28 rfl (by kernel_rfl)) rfl ⟨rfl, ?_⟩
      · exact blk_put (blk_put (blk_put (blk_put HRr.out 0 (.int .i64 e0) rfl) 1 (.int .i64 e1) rfl) 2 (.int .i64 e2) rfl) 3 (.int .i64 e3) rfl
      · exact (((HBr.out.setCell HRB.out.1 _).setCell HRB.out.1 _).setCell HRB.out.1 _).setCell HRB.out.1 _
end Go.Proofs.Ytaejmgdpnnhpmaa.QSty
