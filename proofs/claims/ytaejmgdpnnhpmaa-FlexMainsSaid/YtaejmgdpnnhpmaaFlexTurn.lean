/- (*row).turn, walked by hand. -/
import Derived.Test.YtaejmgdpnnhpmaaFlexRow
import Derived.BigQuiet
namespace Go.Proofs.Ytaejmgdpnnhpmaa.QFlex
open Go.RowKit Go.Proofs.YtaejmgdpnnhpmaaW.PrintWords Go.Proofs.YtaejmgdpnnhpmaaW.PrintLast Go.Proofs.YtaejmgdpnnhpmaaW.PrintMore
attribute [local go_sem] max2_int min2_int max_two min_two max_three min_three max_four min_four
set_option linter.unusedVariables false
set_option linter.unusedSimpArgs false
theorem mul_le (a b : Int) (ha : -16777216 ≤ a ∧ a ≤ 16777216) (hb : -16777216 ≤ b ∧ b ≤ 16777216) : -281474976710656 ≤ a * b ∧ a * b ≤ 281474976710656 := by
  have h : (a * b).natAbs ≤ 16777216 * 16777216 := by rw [Int.natAbs_mul]; exact Nat.mul_le_mul (by omega) (by omega)
  omega
def part (n up down : Int) : Int := if cut down = 0 then 0 else cut ((cut n * cut up).fdiv (cut down))
theorem part_a (n up down : Int) : fix_Part.f n up down = some (part n up down) := by
  unfold fix_Part.f part
  simp only [cut_a, Option.bind_some]
  have hn := cut_le n
  have hu := cut_le up
  have hd := cut_le down
  have hm := mul_le _ _ hn hu
  by_cases h : cut down = 0
  · rw [if_pos h, if_pos h]
  · rw [if_neg h, if_neg h]
    have w : wrap64 (cut n * cut up) = cut n * cut up := by unfold wrap64; omega
    rw [w, floor_a _ _ (by omega) (by omega) h]
    rfl
theorem part_b (n up down : Int) : clerestoryref3_Part.f n up down = some (part n up down) := by
  unfold clerestoryref3_Part.f part
  simp only [cut_b, Option.bind_some]
  have hn := cut_le n
  have hu := cut_le up
  have hd := cut_le down
  have hm := mul_le _ _ hn hu
  by_cases h : cut down = 0
  · rw [if_pos h, if_pos h]
  · rw [if_neg h, if_neg h]
    have w : wrap64 (cut n * cut up) = cut n * cut up := by unfold wrap64; omega
    by_cases hlt : cut down < 0
    · have w1 : wrap64 (-cut up) = -cut up := by unfold wrap64; omega
      have w2 : wrap64 (-cut down) = -cut down := by unfold wrap64; omega
      have w3 : wrap64 (cut n * -cut up) = -(cut n * cut up) := by rw [Int.mul_neg]; unfold wrap64; omega
      rw [if_pos hlt, w1, w2, w3, down_b _ _ (by omega) (by omega) (by omega), Int.neg_fdiv_neg]
      rfl
    · rw [if_neg hlt, w, down_b _ _ (by omega) (by omega) (by omega)]
      rfl
theorem store_run {P : Program} {oi : Oper} {a : Act} {w : World} (ty : TypeId) (x y : Operand) (g : Nat) (cells : Array Value) (ho : oi.op = .store ty x y) (hx : a.eval x = .pointer (some ⟨g, 0, none⟩)) (hy : a.eval y = .agg cells)
    (ht : w.there g 0 cells.size) (hi : (P.info? ty).map (·.size) = some cells.size) (h1 : cells.all (·.oneCell') = true) : (execOp a.eval oi).run P w = .ok .skip (w.setCells g 0 cells.toList) := by
  unfold execOp
  simp only [ho, hx, hy, Instr.storeAt, Instr.sureAddr, Sem.run_bind, Sem.run_pure, Result.andThen_ok, run_storeVar_mid w g 0 ty cells ht hi h1]
theorem sets_far {g b : Nat} (hne : b ≠ g) : ∀ (vs : List Value) (o : Nat) (w : World), (w.setCells g o vs).heap[b]? = w.heap[b]?
  | [], _, _ => rfl
  | v :: r, o, w => (sets_far hne r (o + 1) _).trans (Below.heap_setCell w ⟨g, o, none⟩ v b hne)
theorem sets_below {base g : Nat} {w : World} (hg : base ≤ g) : ∀ (vs : List Value) (o : Nat) (W : World), Below base w W → Below base w (W.setCells g o vs)
  | [], _, _, h => h
  | v :: r, o, W, h => sets_below hg r (o + 1) _ (h.setCell hg v)
theorem sets_put {g : Nat} {t : TypeId} : ∀ (vs pre : List Value) (cs : List Value) (w : World), w.heap[g]? = some (.cells (pre ++ cs).toArray t (0, 0)) → cs.length = vs.length →
    (w.setCells g pre.length vs).heap[g]? = some (.cells (pre ++ vs).toArray t (0, 0))
  | [], pre, cs, w, h, hl => by
    obtain rfl : cs = [] := List.eq_nil_of_length_eq_zero hl
    exact h
  | v :: r, pre, c :: cs, w, h, hl => by
    have h1 : (w.setCell ⟨g, pre.length, none⟩ v).heap[g]? = some (.cells ((pre ++ [v]) ++ cs).toArray t (0, 0)) := blk_put h pre.length v (by simp)
    have h2 := sets_put r (pre ++ [v]) cs _ h1 (by simpa using hl)
    simpa [World.setCells] using h2
  | _ :: _, _, [], _, _, hl => by simp at hl
theorem sets_row {g : Nat} {t : TypeId} {cs vs : Array Value} {w : World} (h : w.heap[g]? = some (.cells cs t (0, 0))) (hl : cs.size = vs.size) : (w.setCells g 0 vs.toList).heap[g]? = some (.cells vs t (0, 0)) := by
  have := sets_put vs.toList [] cs.toList w (by simpa using h) (by simpa using hl)
  simpa using this
theorem there_row {g : Nat} {t : TypeId} {cs : Array Value} {w : World} (h : w.heap[g]? = some (.cells cs t (0, 0))) (n : Nat) (hn : n ≤ cs.size) : w.there g 0 n := by
  intro j hj
  constructor
  · rw [blk_cell h]
    simp
    omega
  · exact blk_frozen h _
theorem below_drew1b {B : Nat} {w W : World} (h : Below B w W) : Below B w W.drew := ⟨h.os, h.tape, h.output, h.size, h.block⟩
def betw (a b c : Int) : Int := mx (if c ≥ 0 then mn (cut a) (cut c) else cut a) (cut b)
theorem betw_a (a b c : Int) : fix_Between.f a b c = some (betw a b c) := by
  unfold fix_Between.f betw
  simp only [cut_a, Option.bind_some]
  split <;> rfl
def nearer (a b : Int) : Int := if mx b (wrap64 (-b)) < mx a (wrap64 (-a)) then b else a
theorem nearer_a (a b : Int) : flex_near.f a b = some (nearer a b) := by
  unfold flex_near.f nearer
  split <;> rfl
/-- How much those that are open count together, of the first k. -/
def sumTo (gr : Bool) (xs : List S99) : Nat → Int
  | 0 => 0
  | k + 1 => if (rd_T99 xs k).f2 then sumTo gr xs k else wrap64 (sumTo gr xs k + facv gr (rd_T99 xs k))
def freeOf (first n s : Int) : Int := if s < 1000 then nearer n (part first s 1000) else n
def wouldOf (ps : List Int) (xs : List S99) (i : Nat) : Int := wrap64 ((rd_T99 xs i).f0.f0 + rd ps i)
def isOf (ps : List Int) (xs : List S99) (i : Nat) : Int := betw (wouldOf ps xs i) (rd_T99 xs i).f0.f1 (rd_T99 xs i).f0.f2
def byOf (ps : List Int) (xs : List S99) (i : Nat) : Int := wrap64 (isOf ps xs i - cut (wouldOf ps xs i))
def told (x : S99) (n : Int) : S99 := ⟨x.f0, x.f1, x.f2, n⟩
def shut (x : S99) : S99 := ⟨x.f0, x.f1, true, x.f3⟩
/-- The items, what they changed by, and all that: behind k of them. -/
def turned (ps : List Int) (xs : List S99) : Nat → List S99
  | 0 => xs
  | k + 1 => if (rd_T99 xs k).f2 then turned ps xs k else (turned ps xs k).set k (told (rd_T99 xs k) (isOf ps xs k))
def bys (ps : List Int) (xs : List S99) : Nat → List Int
  | 0 => List.replicate xs.length 0
  | k + 1 => if (rd_T99 xs k).f2 then bys ps xs k else (bys ps xs k).set k (byOf ps xs k)
def changes (ps : List Int) (xs : List S99) : Nat → Int
  | 0 => 0
  | k + 1 => if (rd_T99 xs k).f2 then changes ps xs k else wrap64 (changes ps xs k + byOf ps xs k)
def settles (c b : Int) : Bool := (c == 0) || ((decide (c > 0) && decide (b > 0)) || (decide (c < 0) && decide (b < 0)))
def settled (c : Int) (bs : List Int) (ys : List S99) : Nat → List S99
  | 0 => ys
  | k + 1 => if settles c (rd bs k) then (settled c bs ys k).set k (shut (rd_T99 ys k)) else settled c bs ys k
theorem turned_length (ps : List Int) (xs : List S99) (k : Nat) : (turned ps xs k).length = xs.length := by
  induction k with
  | zero => rfl
  | succ k ih => unfold turned; split <;> simp [ih]
theorem bys_length (ps : List Int) (xs : List S99) (k : Nat) : (bys ps xs k).length = xs.length := by
  induction k with
  | zero => simp [bys]
  | succ k ih => unfold bys; split <;> simp [ih]
theorem settled_length (c : Int) (bs : List Int) (ys : List S99) (k : Nat) : (settled c bs ys k).length = ys.length := by
  induction k with
  | zero => rfl
  | succ k ih => unfold settled; split <;> simp [ih]
theorem turned_rest (ps : List Int) (xs : List S99) (k j : Nat) (h : k ≤ j) : (turned ps xs k).getD j z99 = xs.getD j z99 := by
  induction k with
  | zero => rfl
  | succ k ih =>
    unfold turned
    split
    · exact ih (by omega)
    · rw [List.getD_eq_getElem?_getD, List.getElem?_set_ne (by omega), ← List.getD_eq_getElem?_getD]
      exact ih (by omega)
theorem settled_rest (c : Int) (bs : List Int) (ys : List S99) (k j : Nat) (h : k ≤ j) : (settled c bs ys k).getD j z99 = ys.getD j z99 := by
  induction k with
  | zero => rfl
  | succ k ih =>
    unfold settled
    split
    · rw [List.getD_eq_getElem?_getD, List.getElem?_set_ne (by omega), ← List.getD_eq_getElem?_getD]
      exact ih (by omega)
    · exact ih (by omega)

set_option maxHeartbeats 8000000 in
set_option maxRecDepth 100000 in
theorem turn_calls (k_ : Nat) (g gi cap base : Nat) (room first n1 : Int) (xs : List S99) (gr : Bool) (ps : List Int) (w : World)
    (hg : w.heap[g]? = some (cells96 room (some ⟨gi, 0, none⟩) xs.length cap gr)) (hr : k99.R 99 w base (fun k => k < g) (.slice (some ⟨gi, 0, none⟩) xs.length cap) xs) (hl : xs.length ≤ 50) (hne : 0 < xs.length)
    (h1 : flex_row_now.f k_ room xs gr = some (n1, room, gr)) (h2 : flex_row_parts.f k_ room xs gr (freeOf first n1 (sumTo gr xs xs.length)) = some (ps, room, gr)) (hps : ps.length = xs.length) :
    Calls Try.prog 71 #[.pointer (some ⟨g, 0, none⟩), .int .i64 first] w fun e w' => e = .returned (.tuple #[]) ∧ w'.heap[g]? = some (cells96 room (some ⟨gi, 0, none⟩) xs.length cap gr) ∧
      k99.R 99 w' base (fun k => k < g) (.slice (some ⟨gi, 0, none⟩) xs.length cap) (settled (changes ps xs xs.length) (bys ps xs xs.length) (turned ps xs xs.length) xs.length) ∧ Below base w w' := by
  have hgi : gi < g := hr.1 gi rfl
  have hbase : base ≤ gi := Kd.R_base hr gi rfl
  have hgw := blk_lt hg
  have KG := Aside0.mk hg
  have KR := Aside0.mk hr
  have H1 := Aside0.mk h1
  have H2 := Aside0.mk h2
  have HP := Aside0.mk hps
  have HGI := Aside0.mk hgi
  have HBS := Aside0.mk hbase
  have HGW := Aside0.mk hgw
  have HB := Aside0.mk (Below.refl w.heap.size w)
  have HL := Aside0.mk hl
  have HNE := Aside0.mk hne
  have hlen : (xs.length : Int) ≤ 50 := by omega
  have hc1 : w.cell? ⟨g, 1, none⟩ = some (.slice (some ⟨gi, 0, none⟩) xs.length cap) := (blk_cell hg 1).trans rfl
  clear hg hr h1 h2 hps hgi hbase hgw hl hne
  go_enter Try.func71, Try.ntmps71
  go_wp2_with (go_at_call 68; (with_reducible refine (now_calls k_ n1 KG.out KR.out H1.out).mono ?_); rintro e w1 ⟨rfl, hb⟩; have KG1 := Aside0.mk (blk_below KG.out hb); have KR1 := Aside0.mk (Kd.R_below KR.out hb); have HB1 := Aside0.mk hb; have hd1 : w1.cell? ⟨g, 1, none⟩ = some (.slice (some ⟨gi, 0, none⟩) xs.length cap) := (blk_cell KG1.out 1).trans rfl; clear hb)
  clear hc1 hd1
  go_loopw [5, 22] (fun s i wr => ∃ k : Nat, k ≤ xs.length ∧ i = .int .i64 k ∧ s = .int .i64 (sumTo gr xs k) ∧ Aside0 (Below w1.heap.size w1 wr)) (fun _ i _ => xs.length - (intOf i).toNat)
  case atStart => exact ⟨0, Nat.zero_le _, rfl, rfl, ⟨Below.refl _ _⟩⟩
  case round =>
    obtain ⟨k, hk, rfl, rfl, HBr⟩ := hrel
    have KGr := Aside0.mk (blk_below KG1.out HBr.out)
    have KRr := Aside0.mk (Kd.R_below KR1.out HBr.out)
    by_cases hlt : k < xs.length
    · skip
      obtain ⟨x, hx⟩ : ∃ x, rd_T99 xs k = x := ⟨_, rfl⟩
      have hx0 := (row_get KRr.out k (by omega) (by omega) 0 _ rfl).1
      simp only [Int.toNat_natCast, Nat.add_zero, hx] at hx0
      have hx1 := (row_get KRr.out k (by omega) (by omega) 1 _ rfl).1
      simp only [Int.toNat_natCast, Nat.add_zero, hx] at hx1
      have hx2 := (row_get KRr.out k (by omega) (by omega) 2 _ rfl).1
      simp only [Int.toNat_natCast, Nat.add_zero, hx] at hx2
      have hx3 := (row_get KRr.out k (by omega) (by omega) 3 _ rfl).1
      simp only [Int.toNat_natCast, Nat.add_zero, hx] at hx3
      have hx4 := (row_get KRr.out k (by omega) (by omega) 4 _ rfl).1
      simp only [Int.toNat_natCast, Nat.add_zero, hx] at hx4
      have hx5 := (row_get KRr.out k (by omega) (by omega) 5 _ rfl).1
      simp only [Int.toNat_natCast, Nat.add_zero, hx] at hx5
      have hx6 := (row_get KRr.out k (by omega) (by omega) 6 _ rfl).1
      simp only [Int.toNat_natCast, Nat.add_zero, hx] at hx6
      have hx7 := (row_get KRr.out k (by omega) (by omega) 7 _ rfl).1
      simp only [Int.toNat_natCast, Nat.add_zero, hx] at hx7
      have hx8 := (row_get KRr.out k (by omega) (by omega) 8 _ rfl).1
      simp only [Int.toNat_natCast, Nat.add_zero, hx] at hx8
      have HS : Aside0 (sumTo gr xs (k + 1) = if x.f2 then sumTo gr xs k else wrap64 (sumTo gr xs k + facv gr x)) := ⟨by rw [← hx]; rfl⟩
      have FC := fun (w : World) hg hr => factor_calls (g := g) (c := cap) (base := base) (room := room) (A := some ⟨gi, 0, none⟩) (gr := gr) (xs := xs) (w := w) x hg hr
      clear hx
      obtain ⟨⟨a0, a1, a2, a3, a4, a5⟩, a6, a7, a8⟩ := x
      obtain ⟨fv, hfv⟩ : ∃ fv, facv gr ⟨⟨a0, a1, a2, a3, a4, a5⟩, a6, a7, a8⟩ = fv := ⟨_, rfl⟩
      rw [hfv] at HS FC
      clear hfv
      obtain ⟨sm, hsm⟩ : ∃ sm, sumTo gr xs k = sm := ⟨_, rfl⟩
      rw [hsm] at HS ⊢
      clear hsm
      unfold enc9 at FC
      have FCA := Aside0.mk FC
      clear FC
      cases a7
      · simp only at hx0 hx1 hx2 hx3 hx4 hx5 hx6 hx7 hx8
        go_wp2_with (first | ((with_reducible refine gate_dst (N := 7) rfl ?_); refine box_event rfl (N := 7) rfl (cs := #[.int .i64 0, .int .i64 0, .int .i64 0, .int .i64 0, .int .i64 0, .int .i64 0, .int .i64 0, .bool false, .int .i64 0]) (t := 99) (by first | (go_simp; done) | (go_simp; rfl)) ?_; intro gx hgx w2 hbx hb; have KX0 := Aside0.mk hbx; have HGX : Aside0 (wr.heap.size ≤ gx) := ⟨by omega⟩; have BX := Aside0.mk hb; clear hgx hbx hb) | ((with_reducible refine gate_store (t := 99) (p := 7) rfl ?_); refine store_event (t := 99) (p := 7) (w1 := w2.setCells gx 0 (#[.int .i64 a0, .int .i64 a1, .int .i64 a2, .int .i64 a3, .int .i64 a4, .int .i64 a5, .int .i64 a6, .bool false, .int .i64 a8] : Array Value).toList) rfl rfl rfl (store_run 99 (.tmp 7) (.tmp 25) gx #[.int .i64 a0, .int .i64 a1, .int .i64 a2, .int .i64 a3, .int .i64 a4, .int .i64 a5, .int .i64 a6, .bool false, .int .i64 a8] rfl rfl rfl (there_row KX0.out _ (Nat.le_refl 9)) (by kernel_rfl) (all_oneCell_toArray (cs := [.int .i64 a0, .int .i64 a1, .int .i64 a2, .int .i64 a3, .int .i64 a4, .int .i64 a5, .int .i64 a6, .bool false, .int .i64 a8]) (by intro v hv; simp only [List.mem_cons, List.not_mem_nil, or_false] at hv; rcases hv with rfl | rfl | rfl | rfl | rfl | rfl | rfl | rfl | rfl <;> rfl))) ?_; intro w3 hw3; have KX : Aside0 (w3.heap[gx]? = some (.cells #[.int .i64 a0, .int .i64 a1, .int .i64 a2, .int .i64 a3, .int .i64 a4, .int .i64 a5, .int .i64 a6, .bool false, .int .i64 a8] 99 (0, 0))) := ⟨by rw [hw3]; exact sets_row KX0.out rfl⟩; have BX3 : Aside0 (Below wr.heap.size wr w3) := ⟨by rw [hw3]; exact sets_below HGX.out _ 0 _ BX.out⟩; clear hw3; have cx0 : w3.cell? ⟨gx, 0, none⟩ = some (.int .i64 a0) := (blk_cell KX.out 0).trans rfl; have cx1 : w3.cell? ⟨gx, 1, none⟩ = some (.int .i64 a1) := (blk_cell KX.out 1).trans rfl; have cx2 : w3.cell? ⟨gx, 2, none⟩ = some (.int .i64 a2) := (blk_cell KX.out 2).trans rfl; have cx3 : w3.cell? ⟨gx, 3, none⟩ = some (.int .i64 a3) := (blk_cell KX.out 3).trans rfl; have cx4 : w3.cell? ⟨gx, 4, none⟩ = some (.int .i64 a4) := (blk_cell KX.out 4).trans rfl; have cx5 : w3.cell? ⟨gx, 5, none⟩ = some (.int .i64 a5) := (blk_cell KX.out 5).trans rfl; have cx6 : w3.cell? ⟨gx, 6, none⟩ = some (.int .i64 a6) := (blk_cell KX.out 6).trans rfl; have cx7 : w3.cell? ⟨gx, 7, none⟩ = some (.bool false) := (blk_cell KX.out 7).trans rfl; have cx8 : w3.cell? ⟨gx, 8, none⟩ = some (.int .i64 a8) := (blk_cell KX.out 8).trans rfl) | (go_at_call 67; (with_reducible refine (FCA.out _ (blk_below KGr.out BX3.out) (Kd.R_below KRr.out BX3.out)).mono ?_); rintro e w4 ⟨rfl, hb⟩; have HB4 := Aside0.mk (below_step (below_step HBr.out BX3.out) hb); clear hb))
        go_roundw
        case rel => exact ⟨k + 1, by omega, by go_num, by rw [HS.out]; rfl, HB4⟩
        case measure => simp [intOf]; omega
      · simp only at hx0 hx1 hx2 hx3 hx4 hx5 hx6 hx7 hx8
        go_wp2_with (first | ((with_reducible refine gate_dst (N := 7) rfl ?_); refine box_event rfl (N := 7) rfl (cs := #[.int .i64 0, .int .i64 0, .int .i64 0, .int .i64 0, .int .i64 0, .int .i64 0, .int .i64 0, .bool false, .int .i64 0]) (t := 99) (by first | (go_simp; done) | (go_simp; rfl)) ?_; intro gx hgx w2 hbx hb; have KX0 := Aside0.mk hbx; have HGX : Aside0 (wr.heap.size ≤ gx) := ⟨by omega⟩; have BX := Aside0.mk hb; clear hgx hbx hb) | ((with_reducible refine gate_store (t := 99) (p := 7) rfl ?_); refine store_event (t := 99) (p := 7) (w1 := w2.setCells gx 0 (#[.int .i64 a0, .int .i64 a1, .int .i64 a2, .int .i64 a3, .int .i64 a4, .int .i64 a5, .int .i64 a6, .bool true, .int .i64 a8] : Array Value).toList) rfl rfl rfl (store_run 99 (.tmp 7) (.tmp 25) gx #[.int .i64 a0, .int .i64 a1, .int .i64 a2, .int .i64 a3, .int .i64 a4, .int .i64 a5, .int .i64 a6, .bool true, .int .i64 a8] rfl rfl rfl (there_row KX0.out _ (Nat.le_refl 9)) (by kernel_rfl) (all_oneCell_toArray (cs := [.int .i64 a0, .int .i64 a1, .int .i64 a2, .int .i64 a3, .int .i64 a4, .int .i64 a5, .int .i64 a6, .bool true, .int .i64 a8]) (by intro v hv; simp only [List.mem_cons, List.not_mem_nil, or_false] at hv; rcases hv with rfl | rfl | rfl | rfl | rfl | rfl | rfl | rfl | rfl <;> rfl))) ?_; intro w3 hw3; have KX : Aside0 (w3.heap[gx]? = some (.cells #[.int .i64 a0, .int .i64 a1, .int .i64 a2, .int .i64 a3, .int .i64 a4, .int .i64 a5, .int .i64 a6, .bool true, .int .i64 a8] 99 (0, 0))) := ⟨by rw [hw3]; exact sets_row KX0.out rfl⟩; have BX3 : Aside0 (Below wr.heap.size wr w3) := ⟨by rw [hw3]; exact sets_below HGX.out _ 0 _ BX.out⟩; clear hw3; have cx0 : w3.cell? ⟨gx, 0, none⟩ = some (.int .i64 a0) := (blk_cell KX.out 0).trans rfl; have cx1 : w3.cell? ⟨gx, 1, none⟩ = some (.int .i64 a1) := (blk_cell KX.out 1).trans rfl; have cx2 : w3.cell? ⟨gx, 2, none⟩ = some (.int .i64 a2) := (blk_cell KX.out 2).trans rfl; have cx3 : w3.cell? ⟨gx, 3, none⟩ = some (.int .i64 a3) := (blk_cell KX.out 3).trans rfl; have cx4 : w3.cell? ⟨gx, 4, none⟩ = some (.int .i64 a4) := (blk_cell KX.out 4).trans rfl; have cx5 : w3.cell? ⟨gx, 5, none⟩ = some (.int .i64 a5) := (blk_cell KX.out 5).trans rfl; have cx6 : w3.cell? ⟨gx, 6, none⟩ = some (.int .i64 a6) := (blk_cell KX.out 6).trans rfl; have cx7 : w3.cell? ⟨gx, 7, none⟩ = some (.bool true) := (blk_cell KX.out 7).trans rfl; have cx8 : w3.cell? ⟨gx, 8, none⟩ = some (.int .i64 a8) := (blk_cell KX.out 8).trans rfl))
        go_roundw
        case rel => exact ⟨k + 1, by omega, by go_num, by rw [HS.out]; rfl, ⟨below_step HBr.out BX3.out⟩⟩
        case measure => simp [intOf]; omega
    · obtain rfl : k = xs.length := by omega
      obtain ⟨sm, hsm⟩ : ∃ sm, sumTo gr xs xs.length = sm := ⟨_, rfl⟩
      have H2 := Aside0.mk (show flex_row_parts.f k_ room xs gr (freeOf first n1 sm) = some (ps, room, gr) by rw [← hsm]; exact H2.out)
      rw [hsm]
      clear hsm
      by_cases hs : sm < 1000
      · obtain ⟨fr, hfr⟩ : ∃ fr, freeOf first n1 sm = fr := ⟨_, rfl⟩
        have H2 := Aside0.mk (show flex_row_parts.f k_ room xs gr fr = some (ps, room, gr) by rw [← hfr]; exact H2.out)
        have HFR := Aside0.mk (show flex_near.f n1 (part first sm 1000) = some fr by rw [← hfr, nearer_a]; unfold freeOf; rw [if_pos hs])
        have hsb : decide (sm < 1000) = true := decide_eq_true hs
        clear hs hfr
        have KGb := Aside0.mk (blk_below KG1.out HBr.out)
        have KRb := Aside0.mk (Kd.R_below KR1.out HBr.out)
        have HBb := Aside0.mk (below_step HB1.out HBr.out)
        clear KG1 KR1 HBr HB1 KGr KRr
        have hn0 : 0 < xs.length := HNE.out
        go_wp2_with (first | (go_at_call 54; (with_reducible refine (fix_Part.calls first sm 1000 _ _ (part_a first sm 1000)).mono ?_); rintro e w5 ⟨rfl, hb⟩; have KGc := Aside0.mk (blk_below KGb.out hb); have KRc := Aside0.mk (Kd.R_below KRb.out hb); have HBc := Aside0.mk (below_step HBb.out hb); clear hb KGb KRb HBb) | (go_at_call 109; (with_reducible refine (flex_near.calls n1 (part first sm 1000) fr _ HFR.out).mono ?_); rintro e w6 ⟨rfl, hb⟩; have KGb := Aside0.mk (blk_below KGc.out hb); have KRb := Aside0.mk (Kd.R_below KRc.out hb); have HBb := Aside0.mk (below_step HBc.out hb); clear hb KGc KRc HBc) | (go_at_call 110; (with_reducible refine (parts_calls k_ fr ps KGb.out KRb.out H2.out).mono ?_); rintro e w7 ⟨vp, rfl, hv, hb⟩; have KP7 := Aside0.mk hv; have KG7 := Aside0.mk (blk_below KGb.out hb); have KR7 := Aside0.mk (Kd.R_below KRb.out hb); have HB7 := Aside0.mk (below_step HBb.out hb); have S7 := Aside0.mk (below_step HBb.out hb).size; have cg1 : w7.cell? ⟨g, 1, none⟩ = some (.slice (some ⟨gi, 0, none⟩) xs.length cap) := (blk_cell KG7.out 1).trans rfl; obtain ⟨gp, cp, hvp, hgp, _⟩ := Kd.R_form KP7.out (by have := HP.out; omega); rw [HP.out] at hvp; subst hvp; have HGP := Aside0.mk (Nat.le_trans HBb.out.size hgp); have SB := Aside0.mk HBb.out.size; clear hv hb hgp) | ((with_reducible refine gate_dst (N := 50) rfl ?_); refine Kd.R_make (Kd.int .i64) _ 3 rfl (N := 50) rfl 51 _ _ rfl (xs.length : Int) rfl rfl Try.underlying51 (.int .i64 0) 8 info3 rfl (by decide) (by omega) 0 (ok := fun _ => True) (okp := fun _ => True) rfl (fun _ hk => hk) trivial (by omega) (by omega) (Below.refl _ _) (Nat.le_refl _) ?_; intro vy w8 ho hb hg_ hat; have KY8 : Aside0 ((Kd.int .i64).R 3 w8 w7.heap.size (fun _ => True) vy (bys ps xs 0)) := ⟨ho⟩; have KG8 := Aside0.mk (blk_below KG7.out hb); have KR8 := Aside0.mk (Kd.R_below KR7.out hb); have KP8 := Aside0.mk (Kd.R_below KP7.out hb); have HB8 := Aside0.mk (below_step HB7.out hb); have HNY := Aside0.mk hg_; have cg1 : w8.cell? ⟨g, 1, none⟩ = some (.slice (some ⟨gi, 0, none⟩) xs.length cap) := (blk_cell KG8.out 1).trans rfl; obtain ⟨gy, cy, hvy, hgy, _⟩ := Kd.R_form KY8.out (by rw [bys_length]; omega); rw [bys_length] at hvy; subst hvy; have HGY := Aside0.mk (Nat.le_trans HB7.out.size hgy); have HY7 := Aside0.mk hgy; have B78 := Aside0.mk hb; clear ho hg_ hat hb hgy))
        clear cg1 KG7 KR7 HB7 KGb KRb HBb
        have KY := Aside0.mk (Kd.R_mono (Kd.R_bound (Kd.R_lower (base' := w.heap.size) KY8.out S7.out)) (ok' := fun q => w.heap.size ≤ q) (fun _ hk => hk.2.1))
        have KP := Aside0.mk (Kd.R_below (Kd.R_mono (Kd.R_bound (Kd.R_lower (base' := w.heap.size) KP7.out SB.out)) (ok' := fun q => w.heap.size ≤ q ∧ q ≠ gy) (fun q hk => ⟨hk.2.1, by have := hk.2.2.1; have := HY7.out; omega⟩)) B78.out)
        have HB := Aside0.mk (show Below base w w8 from ⟨HB8.out.os, HB8.out.tape, HB8.out.output, HB8.out.size, fun q hq => HB8.out.block q (by have := HBS.out; have := HGI.out; have := HGW.out; omega)⟩)
        go_loopw [8, 56] (fun c i wr => ∃ k : Nat, k ≤ xs.length ∧ i = .int .i64 k ∧ c = .int .i64 (changes ps xs k) ∧ Aside0 (wr.heap[g]? = some (cells96 room (some ⟨gi, 0, none⟩) xs.length cap gr)) ∧ Aside0 (k99.R 99 wr base (fun k => k < g) (.slice (some ⟨gi, 0, none⟩) xs.length cap) (turned ps xs k)) ∧ Aside0 ((Kd.int .i64).R 3 wr w.heap.size (fun k => w.heap.size ≤ k) (.slice (some ⟨gy, 0, none⟩) xs.length cy) (bys ps xs k)) ∧ Aside0 ((Kd.int .i64).R 3 wr w.heap.size (fun k => w.heap.size ≤ k ∧ k ≠ gy) (.slice (some ⟨gp, 0, none⟩) xs.length cp) ps) ∧ Aside0 (Below base w wr)) (fun _ i _ => xs.length - (intOf i).toNat)
        case atStart => exact ⟨0, Nat.zero_le _, rfl, rfl, KG8, KR8, KY, KP, HB⟩
        case round =>
          clear KG8 KR8 KY8 KP8 HB8 KY KP HB KP7
          obtain ⟨k, hk, rfl, rfl, KG, KR, KY, KP, HB⟩ := hrel
          by_cases hlt : k < xs.length
          · skip
            have hrow : rd_T99 (turned ps xs k) k = rd_T99 xs k := by show (turned ps xs k).getD ((k : Int).toNat) z99 = xs.getD ((k : Int).toNat) z99; rw [Int.toNat_natCast]; exact turned_rest ps xs k k (Nat.le_refl k)
            obtain ⟨x, hx⟩ : ∃ x, rd_T99 xs k = x := ⟨_, rfl⟩
            have hx0 := (row_get KR.out k (by omega) (by omega) 0 _ rfl).1
            rw [hrow] at hx0
            simp only [Int.toNat_natCast, Nat.add_zero, hx] at hx0
            have hx1 := (row_get KR.out k (by omega) (by omega) 1 _ rfl).1
            rw [hrow] at hx1
            simp only [Int.toNat_natCast, Nat.add_zero, hx] at hx1
            have hx2 := (row_get KR.out k (by omega) (by omega) 2 _ rfl).1
            rw [hrow] at hx2
            simp only [Int.toNat_natCast, Nat.add_zero, hx] at hx2
            have hx3 := (row_get KR.out k (by omega) (by omega) 3 _ rfl).1
            rw [hrow] at hx3
            simp only [Int.toNat_natCast, Nat.add_zero, hx] at hx3
            have hx4 := (row_get KR.out k (by omega) (by omega) 4 _ rfl).1
            rw [hrow] at hx4
            simp only [Int.toNat_natCast, Nat.add_zero, hx] at hx4
            have hx5 := (row_get KR.out k (by omega) (by omega) 5 _ rfl).1
            rw [hrow] at hx5
            simp only [Int.toNat_natCast, Nat.add_zero, hx] at hx5
            have hx6 := (row_get KR.out k (by omega) (by omega) 6 _ rfl).1
            rw [hrow] at hx6
            simp only [Int.toNat_natCast, Nat.add_zero, hx] at hx6
            have hx7 := (row_get KR.out k (by omega) (by omega) 7 _ rfl).1
            rw [hrow] at hx7
            simp only [Int.toNat_natCast, Nat.add_zero, hx] at hx7
            have hx8 := (row_get KR.out k (by omega) (by omega) 8 _ rfl).1
            rw [hrow] at hx8
            simp only [Int.toNat_natCast, Nat.add_zero, hx] at hx8
            have cx8i := row_get KR.out k (by omega) (by omega) 8 _ rfl
            rw [hrow, hx] at cx8i
            obtain ⟨py, hpy⟩ : ∃ py, rd ps k = py := ⟨_, rfl⟩
            obtain ⟨wd, hwd⟩ : ∃ wd, wouldOf ps xs k = wd := ⟨_, rfl⟩
            obtain ⟨is, his⟩ : ∃ is, isOf ps xs k = is := ⟨_, rfl⟩
            obtain ⟨by_, hby⟩ : ∃ b, byOf ps xs k = b := ⟨_, rfl⟩
            have hwd2 : wrap64 (x.f0.f0 + py) = wd := by rw [← hwd, ← hpy, ← hx]; rfl
            have his2 : betw wd x.f0.f1 x.f0.f2 = is := by rw [← his, ← hwd, ← hx]; rfl
            have hby2 : wrap64 (is - cut wd) = by_ := by rw [← hby, ← his, ← hwd]; rfl
            have HCH : Aside0 (changes ps xs (k + 1) = if x.f2 then changes ps xs k else wrap64 (changes ps xs k + by_)) := ⟨by rw [← hx, ← hby]; rfl⟩
            have HTU : Aside0 (turned ps xs (k + 1) = if x.f2 then turned ps xs k else (turned ps xs k).set k (told x is)) := ⟨by rw [← hx, ← his]; rfl⟩
            have HBY : Aside0 (bys ps xs (k + 1) = if x.f2 then bys ps xs k else (bys ps xs k).set k by_) := ⟨by rw [← hx, ← hby]; rfl⟩
            obtain ⟨ch, hch⟩ : ∃ ch, changes ps xs k = ch := ⟨_, rfl⟩
            rw [hch] at HCH ⊢
            have KX8 := Aside0.mk cx8i
            have HROW := Aside0.mk hrow
            have HX := Aside0.mk hx
            clear hch hwd his hby cx8i hrow hx
            obtain ⟨⟨a0, a1, a2, a3, a4, a5⟩, a6, a7, a8⟩ := x
            simp only at hwd2 his2
            have HPY := Aside0.mk hpy
            have HWD := Aside0.mk hwd2
            have HIS := Aside0.mk his2
            have HBYD := Aside0.mk hby2
            clear hpy hwd2 his2 hby2
            cases a7
            · simp only at hx0 hx1 hx2 hx3 hx4 hx5 hx6 hx7 hx8
              go_wp2_with (first | ((with_reducible refine gate_dst (N := 12) rfl ?_); refine box_event rfl (N := 12) rfl (cs := #[.int .i64 0, .int .i64 0, .int .i64 0, .int .i64 0, .int .i64 0, .int .i64 0, .int .i64 0, .bool false, .int .i64 0]) (t := 99) (by first | (go_simp; done) | (go_simp; rfl)) ?_; intro gx hgx w2 hbx hb; have KX0 := Aside0.mk hbx; have HGX : Aside0 (wr.heap.size ≤ gx) := ⟨by omega⟩; have BX := Aside0.mk hb; clear hgx hbx hb) | ((with_reducible refine gate_store (t := 99) (p := 12) rfl ?_); refine store_event (t := 99) (p := 12) (w1 := w2.setCells gx 0 (#[.int .i64 a0, .int .i64 a1, .int .i64 a2, .int .i64 a3, .int .i64 a4, .int .i64 a5, .int .i64 a6, .bool false, .int .i64 a8] : Array Value).toList) rfl rfl rfl (store_run 99 (.tmp 12) (.tmp 60) gx #[.int .i64 a0, .int .i64 a1, .int .i64 a2, .int .i64 a3, .int .i64 a4, .int .i64 a5, .int .i64 a6, .bool false, .int .i64 a8] rfl rfl rfl (there_row KX0.out _ (Nat.le_refl 9)) (by kernel_rfl) (all_oneCell_toArray (cs := [.int .i64 a0, .int .i64 a1, .int .i64 a2, .int .i64 a3, .int .i64 a4, .int .i64 a5, .int .i64 a6, .bool false, .int .i64 a8]) (by intro v hv; simp only [List.mem_cons, List.not_mem_nil, or_false] at hv; rcases hv with rfl | rfl | rfl | rfl | rfl | rfl | rfl | rfl | rfl <;> rfl))) ?_; intro w3 hw3; have KX : Aside0 (w3.heap[gx]? = some (.cells #[.int .i64 a0, .int .i64 a1, .int .i64 a2, .int .i64 a3, .int .i64 a4, .int .i64 a5, .int .i64 a6, .bool false, .int .i64 a8] 99 (0, 0))) := ⟨by rw [hw3]; exact sets_row KX0.out rfl⟩; have BX3 : Aside0 (Below wr.heap.size wr w3) := ⟨by rw [hw3]; exact sets_below HGX.out _ 0 _ BX.out⟩; clear hw3; have cx0 : w3.cell? ⟨gx, 0, none⟩ = some (.int .i64 a0) := (blk_cell KX.out 0).trans rfl; have cx1 : w3.cell? ⟨gx, 1, none⟩ = some (.int .i64 a1) := (blk_cell KX.out 1).trans rfl; have cx2 : w3.cell? ⟨gx, 2, none⟩ = some (.int .i64 a2) := (blk_cell KX.out 2).trans rfl; have cx3 : w3.cell? ⟨gx, 3, none⟩ = some (.int .i64 a3) := (blk_cell KX.out 3).trans rfl; have cx4 : w3.cell? ⟨gx, 4, none⟩ = some (.int .i64 a4) := (blk_cell KX.out 4).trans rfl; have cx5 : w3.cell? ⟨gx, 5, none⟩ = some (.int .i64 a5) := (blk_cell KX.out 5).trans rfl; have cx6 : w3.cell? ⟨gx, 6, none⟩ = some (.int .i64 a6) := (blk_cell KX.out 6).trans rfl; have cx7 : w3.cell? ⟨gx, 7, none⟩ = some (.bool false) := (blk_cell KX.out 7).trans rfl; have cx8 : w3.cell? ⟨gx, 8, none⟩ = some (.int .i64 a8) := (blk_cell KX.out 8).trans rfl))
              have KG3 := Aside0.mk (blk_below KG.out BX3.out)
              have KX3 := Aside0.mk KX.out
              have KR3 := Aside0.mk (Kd.R_below KR.out BX3.out)
              have KY3 := Aside0.mk (Kd.R_below KY.out BX3.out)
              have KP3 := Aside0.mk (Kd.R_below KP.out BX3.out)
              have HB3 := Aside0.mk (below_then HB.out (by have := HB.out.size; have := HBS.out; have := HGI.out; have := HGW.out; omega) BX3.out)
              have HGXW : Aside0 (w.heap.size ≤ gx) := ⟨by have := HGX.out; have := HB.out.size; omega⟩
              clear cx0 hx0 cx1 hx1 cx2 hx2 cx3 hx3 cx4 hx4 cx5 hx5 cx6 hx6 cx7 hx7 cx8 hx8 KX0 BX KX BX3 HGX
              have hkp := (Kd.R_celln (0 : Int) KP3.out (k : Int) (by omega) (by omega)).1
              simp only [Int.toNat_natCast] at hkp
              have hkp2 : w3.cell? ⟨gp, k, none⟩ = some (.int .i64 py) := by rw [← HPY.out]; exact hkp
              clear hkp
              refine start_ (n := 9) (S := fun w' => w'.cell? ⟨gx, 0, none⟩ = some (.int .i64 a0) ∧ w'.cell? ⟨gp, k, none⟩ = some (.int .i64 py)) (ds := []) #[false, false, false, false, false, false, false, false, false] (by kernel_rfl) rfl rfl ⟨(blk_cell (show w3.drew.heap[gx]? = _ from KX3.out) 0).trans rfl, (show w3.drew.cell? ⟨gp, k, none⟩ = _ from hkp2)⟩ (fun hHeld => ?_)
              refine pure_ (i := 0) (N := some 63) (v := ?_) (a' := ?_) #[true, false, false, false, false, false, false, false, false] rfl rfl (by kernel_rfl) (fun _ _ _ h => h) (Or.inl ⟨by rfl, ?_⟩) ?_ ?_
              rotate_left
              · intro w'
                go_simp
                with_reducible rfl
              rotate_left
              · simp only [Act.put, List.setIfInBounds_toArray, List.set_cons_zero, List.set_cons_succ, i64_w, i32_w]
                rfl
              refine pure_ (i := 1) (N := some 64) (v := ?_) (a' := ?_) #[true, true, false, false, false, false, false, false, false] rfl rfl (by kernel_rfl) (fun _ _ _ h => h) (Or.inl ⟨by rfl, ?_⟩) ?_ ?_
              rotate_left
              · intro w'
                go_simp
                with_reducible rfl
              rotate_left
              · simp only [Act.put, List.setIfInBounds_toArray, List.set_cons_zero, List.set_cons_succ, i64_w, i32_w]
                rfl
              refine pure_ (i := 3) (N := some 66) (v := ?_) (a' := ?_) #[true, true, false, true, false, false, false, false, false] rfl rfl (by kernel_rfl) (fun _ _ _ h => h) (Or.inl ⟨by rfl, ?_⟩) ?_ ?_
              rotate_left
              · intro w'
                go_simp
                with_reducible rfl
              rotate_left
              · simp only [Act.put, List.setIfInBounds_toArray, List.set_cons_zero, List.set_cons_succ, i64_w, i32_w]
                rfl
              refine pure_ (i := 4) (N := some 67) (v := ?_) (a' := ?_) #[true, true, false, true, true, false, false, false, false] rfl rfl (by kernel_rfl) (fun _ _ _ h => h) (Or.inl ⟨by rfl, ?_⟩) ?_ ?_
              rotate_left
              · intro w'
                go_simp
                with_reducible rfl
              rotate_left
              · simp only [Act.put, List.setIfInBounds_toArray, List.set_cons_zero, List.set_cons_succ, i64_w, i32_w]
                rfl
              refine pure_ (i := 5) (N := some 68) (v := ?_) (a' := ?_) #[true, true, false, true, true, true, false, false, false] rfl rfl (by kernel_rfl) (fun _ _ _ h => h) (Or.inl ⟨by rfl, ?_⟩) ?_ ?_
              rotate_left
              · intro w'
                go_simp
                with_reducible rfl
              rotate_left
              · simp only [Act.put, List.setIfInBounds_toArray, List.set_cons_zero, List.set_cons_succ, i64_w, i32_w]
                rfl
              refine take_ (i := 2) (N := some 65) (v := ?_) (a' := ?_) #[true, true, true, true, true, true, false, false, false] rfl rfl (by kernel_rfl) (fun _ _ _ h => h) (Or.inl ⟨by rfl, ?_⟩) hHeld ?_ ?_
              rotate_left
              · rintro w' ⟨s0, s1⟩
                go_simp
                with_reducible rfl
              rotate_left
              · simp only [Act.put, List.setIfInBounds_toArray, List.set_cons_zero, List.set_cons_succ, i64_w, i32_w]
                rfl
              refine take_ (i := 6) (N := some 69) (v := ?_) (a' := ?_) #[true, true, true, true, true, true, true, false, false] rfl rfl (by kernel_rfl) (fun _ _ _ h => h) (Or.inl ⟨by rfl, ?_⟩) hHeld ?_ ?_
              rotate_left
              · rintro w' ⟨s0, s1⟩
                go_simp
                with_reducible rfl
              rotate_left
              · simp only [Act.put, List.setIfInBounds_toArray, List.set_cons_zero, List.set_cons_succ, i64_w, i32_w]
                rfl
              refine pure_ (i := 7) (N := some 70) (v := ?_) (a' := ?_) #[true, true, true, true, true, true, true, true, false] rfl rfl (by kernel_rfl) (fun _ _ _ h => h) (Or.inl ⟨by rfl, ?_⟩) ?_ ?_
              rotate_left
              · intro w'
                go_simp
                with_reducible rfl
              rotate_left
              · simp only [Act.put, List.setIfInBounds_toArray, List.set_cons_zero, List.set_cons_succ, i64_w, i32_w]
                rfl
              refine pure_ (i := 8) (N := some 13) (v := ?_) (a' := ?_) #[true, true, true, true, true, true, true, true, true] rfl rfl (by kernel_rfl) (fun _ _ _ h => h) (Or.inl ⟨by rfl, ?_⟩) ?_ ?_
              rotate_left
              · intro w'
                go_simp
                with_reducible rfl
              rotate_left
              · simp only [Act.put, List.setIfInBounds_toArray, List.set_cons_zero, List.set_cons_succ, i64_w, i32_w]
                rfl
              refine done_ (by kernel_rfl) ?_
              have KG4 := Aside0.mk (show (w3.drew).heap[g]? = some (cells96 room (some ⟨gi, 0, none⟩) xs.length cap gr) from KG3.out)
              have KX4 := Aside0.mk (show (w3.drew).heap[gx]? = some (.cells #[.int .i64 a0, .int .i64 a1, .int .i64 a2, .int .i64 a3, .int .i64 a4, .int .i64 a5, .int .i64 a6, .bool false, .int .i64 a8] 99 (0, 0)) from KX3.out)
              have KR4 := Aside0.mk (Kd.R_drew KR3.out)
              have KY4 := Aside0.mk (Kd.R_drew KY3.out)
              have KP4 := Aside0.mk (Kd.R_drew KP3.out)
              have HB4 := Aside0.mk (below_drew1b HB3.out)
              clear hHeld hkp2
              generalize w3.drew = w4 at KG4 KX4 KR4 KY4 KP4 HB4 ⊢
              go_wp2_with fail
              rw [HWD.out]
              have HIF : Aside0 (fix_Between.f wd a1 a2 = some is) := ⟨by rw [betw_a, HIS.out]⟩
              have cg1 : w4.cell? ⟨g, 1, none⟩ = some (.slice (some ⟨gi, 0, none⟩) xs.length cap) := (blk_cell KG4.out 1).trans rfl
              refine start_ (n := 16) (S := fun w' => w'.cell? ⟨g, 1, none⟩ = some (.slice (some ⟨gi, 0, none⟩) xs.length cap) ∧ w'.cell? ⟨gx, 1, none⟩ = some (.int .i64 a1) ∧ w'.cell? ⟨gx, 2, none⟩ = some (.int .i64 a2)) (ds := [15]) #[false, false, false, false, false, false, false, false, false, false, false, false, false, false, false, false] (by kernel_rfl) rfl rfl ⟨(blk_cell (show (w4.drew).heap[g]? = some (cells96 room (some ⟨gi, 0, none⟩) xs.length cap gr) from KG4.out) 1).trans rfl, (blk_cell (show (w4.drew).heap[gx]? = some (.cells #[.int .i64 a0, .int .i64 a1, .int .i64 a2, .int .i64 a3, .int .i64 a4, .int .i64 a5, .int .i64 a6, .bool false, .int .i64 a8] 99 (0, 0)) from KX4.out) 1).trans rfl, (blk_cell (show (w4.drew).heap[gx]? = some (.cells #[.int .i64 a0, .int .i64 a1, .int .i64 a2, .int .i64 a3, .int .i64 a4, .int .i64 a5, .int .i64 a6, .bool false, .int .i64 a8] 99 (0, 0)) from KX4.out) 2).trans rfl⟩ (fun hHeld => ?_)
              refine pure_ (i := 0) (N := some 71) (v := ?_) (a' := ?_) #[true, false, false, false, false, false, false, false, false, false, false, false, false, false, false, false] rfl rfl (by kernel_rfl) (fun _ _ _ h => h) (Or.inl ⟨by rfl, ?_⟩) ?_ ?_
              rotate_left
              · intro w'
                go_simp
                with_reducible rfl
              rotate_left
              · simp only [Act.put, List.setIfInBounds_toArray, List.set_cons_zero, List.set_cons_succ, i64_w, i32_w]
                rfl
              refine pure_ (i := 1) (N := some 72) (v := ?_) (a' := ?_) #[true, true, false, false, false, false, false, false, false, false, false, false, false, false, false, false] rfl rfl (by kernel_rfl) (fun _ _ _ h => h) (Or.inl ⟨by rfl, ?_⟩) ?_ ?_
              rotate_left
              · intro w'
                go_simp
                with_reducible rfl
              rotate_left
              · simp only [Act.put, List.setIfInBounds_toArray, List.set_cons_zero, List.set_cons_succ, i64_w, i32_w]
                rfl
              refine pure_ (i := 2) (N := some 73) (v := ?_) (a' := ?_) #[true, true, true, false, false, false, false, false, false, false, false, false, false, false, false, false] rfl rfl (by kernel_rfl) (fun _ _ _ h => h) (Or.inl ⟨by rfl, ?_⟩) ?_ ?_
              rotate_left
              · intro w'
                go_simp
                with_reducible rfl
              rotate_left
              · simp only [Act.put, List.setIfInBounds_toArray, List.set_cons_zero, List.set_cons_succ, i64_w, i32_w]
                rfl
              refine pure_ (i := 4) (N := some 75) (v := ?_) (a' := ?_) #[true, true, true, false, true, false, false, false, false, false, false, false, false, false, false, false] rfl rfl (by kernel_rfl) (fun _ _ _ h => h) (Or.inl ⟨by rfl, ?_⟩) ?_ ?_
              rotate_left
              · intro w'
                go_simp
                with_reducible rfl
              rotate_left
              · simp only [Act.put, List.setIfInBounds_toArray, List.set_cons_zero, List.set_cons_succ, i64_w, i32_w]
                rfl
              refine pure_ (i := 5) (N := some 76) (v := ?_) (a' := ?_) #[true, true, true, false, true, true, false, false, false, false, false, false, false, false, false, false] rfl rfl (by kernel_rfl) (fun _ _ _ h => h) (Or.inl ⟨by rfl, ?_⟩) ?_ ?_
              rotate_left
              · intro w'
                go_simp
                with_reducible rfl
              rotate_left
              · simp only [Act.put, List.setIfInBounds_toArray, List.set_cons_zero, List.set_cons_succ, i64_w, i32_w]
                rfl
              refine pure_ (i := 6) (N := some 77) (v := ?_) (a' := ?_) #[true, true, true, false, true, true, true, false, false, false, false, false, false, false, false, false] rfl rfl (by kernel_rfl) (fun _ _ _ h => h) (Or.inl ⟨by rfl, ?_⟩) ?_ ?_
              rotate_left
              · intro w'
                go_simp
                with_reducible rfl
              rotate_left
              · simp only [Act.put, List.setIfInBounds_toArray, List.set_cons_zero, List.set_cons_succ, i64_w, i32_w]
                rfl
              refine pure_ (i := 7) (N := some 78) (v := ?_) (a' := ?_) #[true, true, true, false, true, true, true, true, false, false, false, false, false, false, false, false] rfl rfl (by kernel_rfl) (fun _ _ _ h => h) (Or.inl ⟨by rfl, ?_⟩) ?_ ?_
              rotate_left
              · intro w'
                go_simp
                with_reducible rfl
              rotate_left
              · simp only [Act.put, List.setIfInBounds_toArray, List.set_cons_zero, List.set_cons_succ, i64_w, i32_w]
                rfl
              refine pure_ (i := 9) (N := some 80) (v := ?_) (a' := ?_) #[true, true, true, false, true, true, true, true, false, true, false, false, false, false, false, false] rfl rfl (by kernel_rfl) (fun _ _ _ h => h) (Or.inl ⟨by rfl, ?_⟩) ?_ ?_
              rotate_left
              · intro w'
                go_simp
                with_reducible rfl
              rotate_left
              · simp only [Act.put, List.setIfInBounds_toArray, List.set_cons_zero, List.set_cons_succ, i64_w, i32_w]
                rfl
              refine pure_ (i := 10) (N := some 81) (v := ?_) (a' := ?_) #[true, true, true, false, true, true, true, true, false, true, true, false, false, false, false, false] rfl rfl (by kernel_rfl) (fun _ _ _ h => h) (Or.inl ⟨by rfl, ?_⟩) ?_ ?_
              rotate_left
              · intro w'
                go_simp
                with_reducible rfl
              rotate_left
              · simp only [Act.put, List.setIfInBounds_toArray, List.set_cons_zero, List.set_cons_succ, i64_w, i32_w]
                rfl
              refine take_ (i := 3) (N := some 74) (v := ?_) (a' := ?_) #[true, true, true, true, true, true, true, true, false, true, true, false, false, false, false, false] rfl rfl (by kernel_rfl) (fun _ _ _ h => h) (Or.inl ⟨by rfl, ?_⟩) hHeld ?_ ?_
              rotate_left
              · rintro w' ⟨s0, s1, s2⟩
                go_simp
                with_reducible rfl
              rotate_left
              · simp only [Act.put, List.setIfInBounds_toArray, List.set_cons_zero, List.set_cons_succ, i64_w, i32_w]
                rfl
              refine take_ (i := 8) (N := some 79) (v := ?_) (a' := ?_) #[true, true, true, true, true, true, true, true, true, true, true, false, false, false, false, false] rfl rfl (by kernel_rfl) (fun _ _ _ h => h) (Or.inl ⟨by rfl, ?_⟩) hHeld ?_ ?_
              rotate_left
              · rintro w' ⟨s0, s1, s2⟩
                go_simp
                with_reducible rfl
              rotate_left
              · simp only [Act.put, List.setIfInBounds_toArray, List.set_cons_zero, List.set_cons_succ, i64_w, i32_w]
                rfl
              refine take_ (i := 11) (N := some 82) (v := ?_) (a' := ?_) #[true, true, true, true, true, true, true, true, true, true, true, true, false, false, false, false] rfl rfl (by kernel_rfl) (fun _ _ _ h => h) (Or.inl ⟨by rfl, ?_⟩) hHeld ?_ ?_
              rotate_left
              · rintro w' ⟨s0, s1, s2⟩
                go_simp
                with_reducible rfl
              rotate_left
              · simp only [Act.put, List.setIfInBounds_toArray, List.set_cons_zero, List.set_cons_succ, i64_w, i32_w]
                rfl
              refine one_ (i := 12) (N := some 83) #[true, true, true, true, true, true, true, true, true, true, true, true, true, false, false, false] rfl rfl (by kernel_rfl) (by decide) (fun K hK => ?_)
              refine goes_ Try.func106 (by kernel_rfl) rfl #[.int .i64 wd, .int .i64 a1, .int .i64 a2] (by rfl) rfl rfl (by simp only [List.map_toArray, List.map_cons, List.map_nil]; rfl) ?_
              with_reducible refine (fix_Between.calls wd a1 a2 is _ HIF.out).mono ?_
              rintro e w5 ⟨rfl, hb⟩
              refine ⟨_, rfl, ?_⟩
              have KG5 := Aside0.mk (blk_below (show (w4.drew).heap[g]? = some (cells96 room (some ⟨gi, 0, none⟩) xs.length cap gr) from KG4.out) hb)
              have KX5 := Aside0.mk (blk_below (show (w4.drew).heap[gx]? = some (.cells #[.int .i64 a0, .int .i64 a1, .int .i64 a2, .int .i64 a3, .int .i64 a4, .int .i64 a5, .int .i64 a6, .bool false, .int .i64 a8] 99 (0, 0)) from KX4.out) hb)
              have KR5 := Aside0.mk (Kd.R_below (Kd.R_drew KR4.out) hb)
              have KY5 := Aside0.mk (Kd.R_below (Kd.R_drew KY4.out) hb)
              have KP5 := Aside0.mk (Kd.R_below (Kd.R_drew KP4.out) hb)
              have HB5 := Aside0.mk (below_then (below_drew1b HB4.out) (by have := HB4.out.size; have := HBS.out; have := HGI.out; have := HGW.out; show base ≤ w4.heap.size; omega) hb)
              have hrk : rd_T99 (turned ps xs k) k = ⟨⟨a0, a1, a2, a3, a4, a5⟩, a6, false, a8⟩ := HROW.out.trans HX.out
              obtain ⟨cs8, cf8⟩ := row_get KR5.out k (by omega) (by omega) 8 _ rfl
              simp only [Int.toNat_natCast] at cs8 cf8
              rw [hrk] at cs8
              simp only at cs8
              clear hrk hb
              refine hK.out _ _ ⟨(blk_cell KG5.out 1).trans rfl, (blk_cell KX5.out 1).trans rfl, (blk_cell KX5.out 2).trans rfl⟩ (fun hHeld => ?_)
              clear hK K
              refine norm_ (a' := ?_) ?_ ?_
              rotate_left
              · show Act.put _ (some 83) _ = _
                simp only [Act.put, List.setIfInBounds_toArray, List.set_cons_zero, List.set_cons_succ, i64_w, i32_w]
                rfl
              refine pure_ (i := 13) (N := some 84) (v := ?_) (a' := ?_) #[true, true, true, true, true, true, true, true, true, true, true, true, true, true, false, false] rfl rfl (by kernel_rfl) (fun _ _ _ h => h) (Or.inl ⟨by rfl, ?_⟩) ?_ ?_
              rotate_left
              · intro w'
                go_simp
                with_reducible rfl
              rotate_left
              · simp only [Act.put, List.setIfInBounds_toArray, List.set_cons_zero, List.set_cons_succ, i64_w, i32_w]
                rfl
              refine pure_ (i := 14) (N := some 85) (v := ?_) (a' := ?_) #[true, true, true, true, true, true, true, true, true, true, true, true, true, true, true, false] rfl rfl (by kernel_rfl) (fun _ _ _ h => h) (Or.inl ⟨by rfl, ?_⟩) ?_ ?_
              rotate_left
              · intro w'
                go_simp
                with_reducible rfl
              rotate_left
              · simp only [Act.put, List.setIfInBounds_toArray, List.set_cons_zero, List.set_cons_succ, i64_w, i32_w]
                rfl
              refine last_ (i := 15) (N := none) #[true, true, true, true, true, true, true, true, true, true, true, true, true, true, true, true] rfl rfl (by kernel_rfl) (by decide) (fun K hK => ?_)
              refine skip_ (w1 := ?_) (by rfl) rfl ?_ ?_
              rotate_left
              · go_simp
                rfl
              refine hK.out _ _ ?_
              clear hK K
              refine done_ (by kernel_rfl) ?_
              have ngi : g ≠ gi := by have := HGI.out; omega
              have nxi : gx ≠ gi := by have := HGI.out; have := HGW.out; have := HGXW.out; omega
              have hrk : rd_T99 (turned ps xs k) k = ⟨⟨a0, a1, a2, a3, a4, a5⟩, a6, false, a8⟩ := HROW.out.trans HX.out
              have hset := row_set KR5.out k (by omega) (by omega) 8 (by omega) (.int .i64 is) ⟨⟨a0, a1, a2, a3, a4, a5⟩, a6, false, is⟩ (by rw [hrk]; rfl)
              simp only [Int.toNat_natCast] at hset
              have far5 : ∀ q, w.heap.size ≤ q → q ≠ gi := fun q hq => by have := HGI.out; have := HGW.out; omega
              have KG6 := Aside0.mk (show ((w5.setCell ⟨gi, k * 9 + 8, none⟩ (.int .i64 is))).heap[g]? = some (cells96 room (some ⟨gi, 0, none⟩) xs.length cap gr) from blk_far KG5.out ngi _)
              have KX6 := Aside0.mk (show ((w5.setCell ⟨gi, k * 9 + 8, none⟩ (.int .i64 is))).heap[gx]? = some (.cells #[.int .i64 a0, .int .i64 a1, .int .i64 a2, .int .i64 a3, .int .i64 a4, .int .i64 a5, .int .i64 a6, .bool false, .int .i64 a8] 99 (0, 0)) from blk_far KX5.out nxi _)
              have KR6 := Aside0.mk hset
              have KY6 := Aside0.mk (Kd.R_far (p := ⟨gi, k * 9 + 8, none⟩) KY5.out far5 (.int .i64 is))
              have KP6 := Aside0.mk (Kd.R_far (p := ⟨gi, k * 9 + 8, none⟩) KP5.out (fun q hq => far5 q hq.1) (.int .i64 is))
              have HB6 := Aside0.mk (HB5.out.setCell (p := ⟨gi, k * 9 + 8, none⟩) HBS.out (.int .i64 is))
              clear hHeld cs8 cf8 hset hrk cg1
              generalize (w5.setCell ⟨gi, k * 9 + 8, none⟩ (.int .i64 is)) = w6 at KG6 KX6 KR6 KY6 KP6 HB6 ⊢
              go_wp2_with fail
              have hrk : rd_T99 ((turned ps xs k).set k ⟨⟨a0, a1, a2, a3, a4, a5⟩, a6, false, is⟩) k = ⟨⟨a0, a1, a2, a3, a4, a5⟩, a6, false, is⟩ := by show List.getD _ (k : Int).toNat _ = _; rw [Int.toNat_natCast, List.getD_eq_getElem?_getD, List.getElem?_set_self (by rw [turned_length]; exact hlt)]; rfl
              have HRK := Aside0.mk hrk
              clear hrk far5
              have ci8 := (row_get KR6.out k (by omega) (by omega) 8 _ rfl).1
              simp only [Int.toNat_natCast] at ci8
              rw [HRK.out] at ci8
              simp only at ci8
              refine start_ (n := 15) (S := fun w' => w'.cell? ⟨g, 1, none⟩ = some (.slice (some ⟨gi, 0, none⟩) xs.length cap) ∧ w'.cell? ⟨gi, k * 9 + 8, none⟩ = some (.int .i64 is)) (ds := [14]) #[false, false, false, false, false, false, false, false, false, false, false, false, false, false, false] (by kernel_rfl) rfl rfl ⟨(blk_cell (show (w6.drew).heap[g]? = some (cells96 room (some ⟨gi, 0, none⟩) xs.length cap gr) from KG6.out) 1).trans rfl, (show w6.drew.cell? _ = _ from ci8)⟩ (fun hHeld => ?_)
              refine pure_ (i := 0) (N := some 86) (v := ?_) (a' := ?_) #[true, false, false, false, false, false, false, false, false, false, false, false, false, false, false] rfl rfl (by kernel_rfl) (fun _ _ _ h => h) (Or.inl ⟨by rfl, ?_⟩) ?_ ?_
              rotate_left
              · intro w'
                go_simp
                with_reducible rfl
              rotate_left
              · simp only [Act.put, List.setIfInBounds_toArray, List.set_cons_zero, List.set_cons_succ, i64_w, i32_w]
                rfl
              refine pure_ (i := 1) (N := some 87) (v := ?_) (a' := ?_) #[true, true, false, false, false, false, false, false, false, false, false, false, false, false, false] rfl rfl (by kernel_rfl) (fun _ _ _ h => h) (Or.inl ⟨by rfl, ?_⟩) ?_ ?_
              rotate_left
              · intro w'
                go_simp
                with_reducible rfl
              rotate_left
              · simp only [Act.put, List.setIfInBounds_toArray, List.set_cons_zero, List.set_cons_succ, i64_w, i32_w]
                rfl
              refine pure_ (i := 2) (N := some 88) (v := ?_) (a' := ?_) #[true, true, true, false, false, false, false, false, false, false, false, false, false, false, false] rfl rfl (by kernel_rfl) (fun _ _ _ h => h) (Or.inl ⟨by rfl, ?_⟩) ?_ ?_
              rotate_left
              · intro w'
                go_simp
                with_reducible rfl
              rotate_left
              · simp only [Act.put, List.setIfInBounds_toArray, List.set_cons_zero, List.set_cons_succ, i64_w, i32_w]
                rfl
              refine pure_ (i := 3) (N := some 89) (v := ?_) (a' := ?_) #[true, true, true, true, false, false, false, false, false, false, false, false, false, false, false] rfl rfl (by kernel_rfl) (fun _ _ _ h => h) (Or.inl ⟨by rfl, ?_⟩) ?_ ?_
              rotate_left
              · intro w'
                go_simp
                with_reducible rfl
              rotate_left
              · simp only [Act.put, List.setIfInBounds_toArray, List.set_cons_zero, List.set_cons_succ, i64_w, i32_w]
                rfl
              refine pure_ (i := 4) (N := some 90) (v := ?_) (a' := ?_) #[true, true, true, true, true, false, false, false, false, false, false, false, false, false, false] rfl rfl (by kernel_rfl) (fun _ _ _ h => h) (Or.inl ⟨by rfl, ?_⟩) ?_ ?_
              rotate_left
              · intro w'
                go_simp
                with_reducible rfl
              rotate_left
              · simp only [Act.put, List.setIfInBounds_toArray, List.set_cons_zero, List.set_cons_succ, i64_w, i32_w]
                rfl
              refine pure_ (i := 6) (N := some 92) (v := ?_) (a' := ?_) #[true, true, true, true, true, false, true, false, false, false, false, false, false, false, false] rfl rfl (by kernel_rfl) (fun _ _ _ h => h) (Or.inl ⟨by rfl, ?_⟩) ?_ ?_
              rotate_left
              · intro w'
                go_simp
                with_reducible rfl
              rotate_left
              · simp only [Act.put, List.setIfInBounds_toArray, List.set_cons_zero, List.set_cons_succ, i64_w, i32_w]
                rfl
              refine pure_ (i := 10) (N := some 96) (v := ?_) (a' := ?_) #[true, true, true, true, true, false, true, false, false, false, true, false, false, false, false] rfl rfl (by kernel_rfl) (fun _ _ _ h => h) (Or.inl ⟨by rfl, ?_⟩) ?_ ?_
              rotate_left
              · intro w'
                go_simp
                with_reducible rfl
              rotate_left
              · simp only [Act.put, List.setIfInBounds_toArray, List.set_cons_zero, List.set_cons_succ, i64_w, i32_w]
                rfl
              refine take_ (i := 5) (N := some 91) (v := ?_) (a' := ?_) #[true, true, true, true, true, true, true, false, false, false, true, false, false, false, false] rfl rfl (by kernel_rfl) (fun _ _ _ h => h) (Or.inl ⟨by rfl, ?_⟩) hHeld ?_ ?_
              rotate_left
              · rintro w' ⟨s0, s1⟩
                go_simp
                with_reducible rfl
              rotate_left
              · simp only [Act.put, List.setIfInBounds_toArray, List.set_cons_zero, List.set_cons_succ, i64_w, i32_w]
                rfl
              refine pure_ (i := 7) (N := some 93) (v := ?_) (a' := ?_) #[true, true, true, true, true, true, true, true, false, false, true, false, false, false, false] rfl rfl (by kernel_rfl) (fun _ _ _ h => h) (Or.inl ⟨by rfl, ?_⟩) ?_ ?_
              rotate_left
              · intro w'
                go_simp
                with_reducible rfl
              rotate_left
              · simp only [Act.put, List.setIfInBounds_toArray, List.set_cons_zero, List.set_cons_succ, i64_w, i32_w]
                rfl
              refine pure_ (i := 8) (N := some 94) (v := ?_) (a' := ?_) #[true, true, true, true, true, true, true, true, true, false, true, false, false, false, false] rfl rfl (by kernel_rfl) (fun _ _ _ h => h) (Or.inl ⟨by rfl, ?_⟩) ?_ ?_
              rotate_left
              · intro w'
                go_simp
                with_reducible rfl
              rotate_left
              · simp only [Act.put, List.setIfInBounds_toArray, List.set_cons_zero, List.set_cons_succ, i64_w, i32_w]
                rfl
              refine take_ (i := 9) (N := some 95) (v := ?_) (a' := ?_) #[true, true, true, true, true, true, true, true, true, true, true, false, false, false, false] rfl rfl (by kernel_rfl) (fun _ _ _ h => h) (Or.inl ⟨by rfl, ?_⟩) hHeld ?_ ?_
              rotate_left
              · rintro w' ⟨s0, s1⟩
                go_simp
                with_reducible rfl
              rotate_left
              · simp only [Act.put, List.setIfInBounds_toArray, List.set_cons_zero, List.set_cons_succ, i64_w, i32_w]
                rfl
              refine one_ (i := 11) (N := some 97) #[true, true, true, true, true, true, true, true, true, true, true, true, false, false, false] rfl rfl (by kernel_rfl) (by decide) (fun K hK => ?_)
              refine goes_ Try.func51 (by kernel_rfl) rfl #[.int .i64 wd] (by rfl) rfl rfl (by simp only [List.map_toArray, List.map_cons, List.map_nil]; rfl) ?_
              with_reducible refine (fix_Cut.calls wd (cut wd) _ (cut_a wd)).mono ?_
              rintro e w7 ⟨rfl, hb⟩
              refine ⟨_, rfl, ?_⟩
              have KG7 := Aside0.mk (blk_below (show (w6.drew).heap[g]? = some (cells96 room (some ⟨gi, 0, none⟩) xs.length cap gr) from KG6.out) hb)
              have KX7 := Aside0.mk (blk_below (show (w6.drew).heap[gx]? = some (.cells #[.int .i64 a0, .int .i64 a1, .int .i64 a2, .int .i64 a3, .int .i64 a4, .int .i64 a5, .int .i64 a6, .bool false, .int .i64 a8] 99 (0, 0)) from KX6.out) hb)
              have KR7 := Aside0.mk (Kd.R_below (Kd.R_drew KR6.out) hb)
              have KY7 := Aside0.mk (Kd.R_below (Kd.R_drew KY6.out) hb)
              have KP7 := Aside0.mk (Kd.R_below (Kd.R_drew KP6.out) hb)
              have HB7 := Aside0.mk (below_then (below_drew1b HB6.out) (by have := HB6.out.size; have := HBS.out; have := HGI.out; have := HGW.out; show base ≤ w6.heap.size; omega) hb)
              have cj8 := (row_get KR7.out k (by omega) (by omega) 8 _ rfl).1
              simp only [Int.toNat_natCast] at cj8
              rw [HRK.out] at cj8
              simp only at cj8
              obtain ⟨cy8, cfy8⟩ := Kd.R_celln (0 : Int) KY7.out (k : Int) (by omega) (by omega)
              simp only [Int.toNat_natCast] at cy8 cfy8
              clear hb
              refine hK.out _ _ ⟨(blk_cell KG7.out 1).trans rfl, cj8⟩ (fun hHeld => ?_)
              clear hK K
              refine norm_ (a' := ?_) ?_ ?_
              rotate_left
              · show Act.put _ (some 97) _ = _
                simp only [Act.put, List.setIfInBounds_toArray, List.set_cons_zero, List.set_cons_succ, i64_w, i32_w]
                rfl
              refine pure_ (i := 12) (N := some 98) (v := ?_) (a' := ?_) #[true, true, true, true, true, true, true, true, true, true, true, true, true, false, false] rfl rfl (by kernel_rfl) (fun _ _ _ h => h) (Or.inl ⟨by rfl, ?_⟩) ?_ ?_
              rotate_left
              · intro w'
                go_simp
                with_reducible rfl
              rotate_left
              · simp only [Act.put, List.setIfInBounds_toArray, List.set_cons_zero, List.set_cons_succ, i64_w, i32_w]
                rfl
              refine pure_ (i := 13) (N := some 99) (v := ?_) (a' := ?_) #[true, true, true, true, true, true, true, true, true, true, true, true, true, true, false] rfl rfl (by kernel_rfl) (fun _ _ _ h => h) (Or.inl ⟨by rfl, ?_⟩) ?_ ?_
              rotate_left
              · intro w'
                go_simp
                with_reducible rfl
              rotate_left
              · simp only [Act.put, List.setIfInBounds_toArray, List.set_cons_zero, List.set_cons_succ, i64_w, i32_w]
                rfl
              refine last_ (i := 14) (N := none) #[true, true, true, true, true, true, true, true, true, true, true, true, true, true, true] rfl rfl (by kernel_rfl) (by decide) (fun K hK => ?_)
              refine skip_ (w1 := ?_) (by rfl) rfl ?_ ?_
              rotate_left
              · go_simp
                rfl
              refine hK.out _ _ ?_
              clear hK K
              refine done_ (by kernel_rfl) ?_
              rw [HBYD.out]
              have ngy : g ≠ gy := by have := HGY.out; have := HGW.out; omega
              have niy : gi ≠ gy := by have := HGI.out; have := HGY.out; have := HGW.out; omega
              have hset := Kd.R_putn KY7.out (k : Int) by_
              simp only [Int.toNat_natCast] at hset
              have far7 : ∀ q, w.heap.size ≤ q ∧ q ≠ gy → q ≠ gy := fun q hq => hq.2
              have KG8 := Aside0.mk (show ((w7.setCell ⟨gy, k, none⟩ (.int .i64 by_))).heap[g]? = some (cells96 room (some ⟨gi, 0, none⟩) xs.length cap gr) from blk_far KG7.out ngy _)
              have KR8 := Aside0.mk (Kd.R_far (p := ⟨gy, k, none⟩) KR7.out (fun q hq => by show q ≠ gy; have := HGY.out; have := HGW.out; omega) (.int .i64 by_))
              have KY8 := Aside0.mk hset
              have KP8 := Aside0.mk (Kd.R_far (p := ⟨gy, k, none⟩) KP7.out far7 (.int .i64 by_))
              have HB8 := Aside0.mk (HB7.out.setCell (p := ⟨gy, k, none⟩) (by have := HGY.out; have := HBS.out; have := HGI.out; have := HGW.out; show base ≤ gy; omega) (.int .i64 by_))
              clear hHeld cj8 cy8 cfy8 hset ci8 far7
              generalize (w7.setCell ⟨gy, k, none⟩ (.int .i64 by_)) = w8 at KG8 KR8 KY8 KP8 HB8 ⊢
              have hyk := (Kd.R_celln (0 : Int) KY8.out (k : Int) (by omega) (by omega)).1
              simp only [Int.toNat_natCast] at hyk
              have hyk2 : w8.cell? ⟨gy, k, none⟩ = some (.int .i64 by_) := by rw [hyk]; show some (Value.int .i64 (rd ((bys ps xs k).set k by_) k)) = _; unfold rd; rw [Int.toNat_natCast, List.getD_eq_getElem?_getD, List.getElem?_set_self (by rw [bys_length]; exact hlt)]; rfl
              clear hyk
              go_wp2
              go_roundw
              case rel => exact ⟨k + 1, by omega, by go_num, by rw [HCH.out]; rfl, KG8, ⟨by rw [HTU.out]; exact KR8.out⟩, ⟨by rw [HBY.out]; exact KY8.out⟩, KP8, HB8⟩
              case measure => simp [intOf]; omega
            · simp only at hx0 hx1 hx2 hx3 hx4 hx5 hx6 hx7 hx8
              go_wp2_with (first | ((with_reducible refine gate_dst (N := 12) rfl ?_); refine box_event rfl (N := 12) rfl (cs := #[.int .i64 0, .int .i64 0, .int .i64 0, .int .i64 0, .int .i64 0, .int .i64 0, .int .i64 0, .bool false, .int .i64 0]) (t := 99) (by first | (go_simp; done) | (go_simp; rfl)) ?_; intro gx hgx w2 hbx hb; have KX0 := Aside0.mk hbx; have HGX : Aside0 (wr.heap.size ≤ gx) := ⟨by omega⟩; have BX := Aside0.mk hb; clear hgx hbx hb) | ((with_reducible refine gate_store (t := 99) (p := 12) rfl ?_); refine store_event (t := 99) (p := 12) (w1 := w2.setCells gx 0 (#[.int .i64 a0, .int .i64 a1, .int .i64 a2, .int .i64 a3, .int .i64 a4, .int .i64 a5, .int .i64 a6, .bool true, .int .i64 a8] : Array Value).toList) rfl rfl rfl (store_run 99 (.tmp 12) (.tmp 60) gx #[.int .i64 a0, .int .i64 a1, .int .i64 a2, .int .i64 a3, .int .i64 a4, .int .i64 a5, .int .i64 a6, .bool true, .int .i64 a8] rfl rfl rfl (there_row KX0.out _ (Nat.le_refl 9)) (by kernel_rfl) (all_oneCell_toArray (cs := [.int .i64 a0, .int .i64 a1, .int .i64 a2, .int .i64 a3, .int .i64 a4, .int .i64 a5, .int .i64 a6, .bool true, .int .i64 a8]) (by intro v hv; simp only [List.mem_cons, List.not_mem_nil, or_false] at hv; rcases hv with rfl | rfl | rfl | rfl | rfl | rfl | rfl | rfl | rfl <;> rfl))) ?_; intro w3 hw3; have KX : Aside0 (w3.heap[gx]? = some (.cells #[.int .i64 a0, .int .i64 a1, .int .i64 a2, .int .i64 a3, .int .i64 a4, .int .i64 a5, .int .i64 a6, .bool true, .int .i64 a8] 99 (0, 0))) := ⟨by rw [hw3]; exact sets_row KX0.out rfl⟩; have BX3 : Aside0 (Below wr.heap.size wr w3) := ⟨by rw [hw3]; exact sets_below HGX.out _ 0 _ BX.out⟩; clear hw3; have cx0 : w3.cell? ⟨gx, 0, none⟩ = some (.int .i64 a0) := (blk_cell KX.out 0).trans rfl; have cx1 : w3.cell? ⟨gx, 1, none⟩ = some (.int .i64 a1) := (blk_cell KX.out 1).trans rfl; have cx2 : w3.cell? ⟨gx, 2, none⟩ = some (.int .i64 a2) := (blk_cell KX.out 2).trans rfl; have cx3 : w3.cell? ⟨gx, 3, none⟩ = some (.int .i64 a3) := (blk_cell KX.out 3).trans rfl; have cx4 : w3.cell? ⟨gx, 4, none⟩ = some (.int .i64 a4) := (blk_cell KX.out 4).trans rfl; have cx5 : w3.cell? ⟨gx, 5, none⟩ = some (.int .i64 a5) := (blk_cell KX.out 5).trans rfl; have cx6 : w3.cell? ⟨gx, 6, none⟩ = some (.int .i64 a6) := (blk_cell KX.out 6).trans rfl; have cx7 : w3.cell? ⟨gx, 7, none⟩ = some (.bool true) := (blk_cell KX.out 7).trans rfl; have cx8 : w3.cell? ⟨gx, 8, none⟩ = some (.int .i64 a8) := (blk_cell KX.out 8).trans rfl))
              go_roundw
              case rel => exact ⟨k + 1, by omega, by go_num, by rw [HCH.out]; rfl, ⟨blk_below KG.out BX3.out⟩, ⟨by rw [HTU.out]; exact Kd.R_below KR.out BX3.out⟩, ⟨by rw [HBY.out]; exact Kd.R_below KY.out BX3.out⟩, ⟨Kd.R_below KP.out BX3.out⟩, ⟨below_then HB.out (by have := HB.out.size; have := HBS.out; have := HGI.out; have := HGW.out; omega) BX3.out⟩⟩
              case measure => simp [intOf]; omega
          · obtain rfl : k = xs.length := by omega
            have cg1 : wr.cell? ⟨g, 1, none⟩ = some (.slice (some ⟨gi, 0, none⟩) xs.length cap) := (blk_cell KG.out 1).trans rfl
            obtain ⟨c, hc⟩ : ∃ c, changes ps xs xs.length = c := ⟨_, rfl⟩
            obtain ⟨bs, hbs⟩ : ∃ bs, bys ps xs xs.length = bs := ⟨_, rfl⟩
            obtain ⟨ys, hys⟩ : ∃ ys, turned ps xs xs.length = ys := ⟨_, rfl⟩
            have LB : bs.length = xs.length := by rw [← hbs]; exact bys_length ps xs _
            have LY : ys.length = xs.length := by rw [← hys]; exact turned_length ps xs _
            have HLB := Aside0.mk LB
            have HLY := Aside0.mk LY
            rw [hbs] at KY
            rw [hys] at KR
            rw [hc]
            have HEND : Aside0 (∀ n, settled c bs ys n = settled (changes ps xs xs.length) (bys ps xs xs.length) (turned ps xs xs.length) n) := ⟨fun n => by rw [hc, hbs, hys]⟩
            clear hc hbs hys LB LY
            go_wp2
            clear cg1
            go_loopw [112] (fun i wq => ∃ k : Nat, k ≤ xs.length ∧ i = .int .i64 k ∧ Aside0 (wq.heap[g]? = some (cells96 room (some ⟨gi, 0, none⟩) xs.length cap gr)) ∧ Aside0 (k99.R 99 wq base (fun k => k < g) (.slice (some ⟨gi, 0, none⟩) xs.length cap) (settled c bs ys k)) ∧ Aside0 ((Kd.int .i64).R 3 wq w.heap.size (fun k => w.heap.size ≤ k) (.slice (some ⟨gy, 0, none⟩) xs.length cy) bs) ∧ Aside0 (Below base w wq)) (fun i _ => xs.length - (intOf i).toNat)
            case atStart => exact ⟨0, Nat.zero_le _, rfl, KG, KR, KY, HB⟩
            case round =>
              clear KG KR KY KP HB
              obtain ⟨k, hk, rfl, KG, KR, KY, HB⟩ := hrel
              by_cases hlt : k < xs.length
              · skip
                have hyk := (Kd.R_celln (0 : Int) KY.out (k : Int) (by omega) (by omega)).1
                simp only [Int.toNat_natCast] at hyk
                obtain ⟨b, hb⟩ : ∃ b, rd bs k = b := ⟨_, rfl⟩
                have hyb : wr.cell? ⟨gy, k, none⟩ = some (.int .i64 b) := by rw [← hb]; exact hyk
                have HSB : Aside0 (settled c bs ys (k + 1) = if settles c b then (settled c bs ys k).set k (shut (rd_T99 ys k)) else settled c bs ys k) := ⟨by rw [← hb]; rfl⟩
                have hrow : rd_T99 (settled c bs ys k) k = rd_T99 ys k := by show (settled c bs ys k).getD ((k : Int).toNat) z99 = ys.getD ((k : Int).toNat) z99; rw [Int.toNat_natCast]; exact settled_rest c bs ys k k (Nat.le_refl k)
                have HROW3 := Aside0.mk hrow
                have cg1 : wr.cell? ⟨g, 1, none⟩ = some (.slice (some ⟨gi, 0, none⟩) xs.length cap) := (blk_cell KG.out 1).trans rfl
                obtain ⟨cs7, cf7⟩ := row_get KR.out k (by omega) (by omega) 7 _ rfl
                simp only [Int.toNat_natCast] at cs7 cf7
                clear hb hyk hrow
                rcases (by omega : c = 0 ∨ 0 < c ∨ c < 0) with h0 | h0 | h0
                · have e0 : (c == 0) = true := by rw [h0]; rfl
                  clear h0
                  skip
                  · have HT : Aside0 (settles c b = true) := ⟨by unfold settles; simp only [gt_iff_lt]; rw [e0]; rfl⟩
                    rw [HT.out] at HSB
                    go_wp2
                    go_roundw
                    case rel =>
                      have hset := row_set KR.out k (by omega) (by omega) 7 (by omega) (.bool true) (shut (rd_T99 ys k)) (by rw [HROW3.out]; rfl)
                      simp only [Int.toNat_natCast] at hset
                      exact ⟨k + 1, by omega, by go_num, ⟨blk_far KG.out (by have := HGI.out; show g ≠ gi; omega) _⟩, ⟨by rw [HSB.out]; exact hset⟩, ⟨Kd.R_far (p := ⟨gi, k * 9 + 7, none⟩) KY.out (fun q hq => by show q ≠ gi; have := HGI.out; have := HGW.out; omega) _⟩, ⟨HB.out.setCell (p := ⟨gi, k * 9 + 7, none⟩) HBS.out _⟩⟩
                    case measure => simp [intOf]; omega
                · have e0 : (c == 0) = false := beq_eq_false_iff_ne.mpr (by omega)
                  have e1 : decide (0 < c) = true := decide_eq_true h0
                  have e2 : decide (c < 0) = false := decide_eq_false (by omega)
                  clear h0
                  by_cases h1 : 0 < b
                  · have e3 : decide (0 < b) = true := decide_eq_true h1
                    clear h1
                    · have HT : Aside0 (settles c b = true) := ⟨by unfold settles; simp only [gt_iff_lt]; rw [e0, e1, e3]; rfl⟩
                      rw [HT.out] at HSB
                      go_wp2
                      go_roundw
                      case rel =>
                        have hset := row_set KR.out k (by omega) (by omega) 7 (by omega) (.bool true) (shut (rd_T99 ys k)) (by rw [HROW3.out]; rfl)
                        simp only [Int.toNat_natCast] at hset
                        exact ⟨k + 1, by omega, by go_num, ⟨blk_far KG.out (by have := HGI.out; show g ≠ gi; omega) _⟩, ⟨by rw [HSB.out]; exact hset⟩, ⟨Kd.R_far (p := ⟨gi, k * 9 + 7, none⟩) KY.out (fun q hq => by show q ≠ gi; have := HGI.out; have := HGW.out; omega) _⟩, ⟨HB.out.setCell (p := ⟨gi, k * 9 + 7, none⟩) HBS.out _⟩⟩
                      case measure => simp [intOf]; omega
                  · have e3 : decide (0 < b) = false := decide_eq_false h1
                    clear h1
                    · have HT : Aside0 (settles c b = false) := ⟨by unfold settles; simp only [gt_iff_lt]; rw [e0, e1, e3, e2]; rfl⟩
                      rw [HT.out] at HSB
                      go_wp2
                      go_roundw
                      case rel => exact ⟨k + 1, by omega, by go_num, KG, ⟨by rw [HSB.out]; exact KR.out⟩, KY, HB⟩
                      case measure => simp [intOf]; omega
                · have e0 : (c == 0) = false := beq_eq_false_iff_ne.mpr (by omega)
                  have e1 : decide (0 < c) = false := decide_eq_false (by omega)
                  have e2 : decide (c < 0) = true := decide_eq_true h0
                  clear h0
                  by_cases h1 : b < 0
                  · have e3 : decide (b < 0) = true := decide_eq_true h1
                    clear h1
                    · have HT : Aside0 (settles c b = true) := ⟨by unfold settles; simp only [gt_iff_lt]; rw [e0, e1, e2, e3]; rfl⟩
                      rw [HT.out] at HSB
                      go_wp2
                      go_roundw
                      case rel =>
                        have hset := row_set KR.out k (by omega) (by omega) 7 (by omega) (.bool true) (shut (rd_T99 ys k)) (by rw [HROW3.out]; rfl)
                        simp only [Int.toNat_natCast] at hset
                        exact ⟨k + 1, by omega, by go_num, ⟨blk_far KG.out (by have := HGI.out; show g ≠ gi; omega) _⟩, ⟨by rw [HSB.out]; exact hset⟩, ⟨Kd.R_far (p := ⟨gi, k * 9 + 7, none⟩) KY.out (fun q hq => by show q ≠ gi; have := HGI.out; have := HGW.out; omega) _⟩, ⟨HB.out.setCell (p := ⟨gi, k * 9 + 7, none⟩) HBS.out _⟩⟩
                      case measure => simp [intOf]; omega
                  · have e3 : decide (b < 0) = false := decide_eq_false h1
                    clear h1
                    · have HT : Aside0 (settles c b = false) := ⟨by unfold settles; simp only [gt_iff_lt]; rw [e0, e1, e2, e3]; rfl⟩
                      rw [HT.out] at HSB
                      go_wp2
                      go_roundw
                      case rel => exact ⟨k + 1, by omega, by go_num, KG, ⟨by rw [HSB.out]; exact KR.out⟩, KY, HB⟩
                      case measure => simp [intOf]; omega
              · obtain rfl : k = xs.length := by omega
                go_wp2
                refine bodyPost_end (results_none rfl _ _ _) rfl ?_
                exact ⟨rfl, KG.out, by rw [← HEND.out]; exact KR.out, HB.out⟩
      · obtain ⟨fr, hfr⟩ : ∃ fr, freeOf first n1 sm = fr := ⟨_, rfl⟩
        have H2 := Aside0.mk (show flex_row_parts.f k_ room xs gr fr = some (ps, room, gr) by rw [← hfr]; exact H2.out)
        obtain rfl : n1 = fr := by rw [← hfr]; unfold freeOf; rw [if_neg hs]
        have hsb : decide (sm < 1000) = false := decide_eq_false hs
        clear hs
        have KGb := Aside0.mk (blk_below KG1.out HBr.out)
        have KRb := Aside0.mk (Kd.R_below KR1.out HBr.out)
        have HBb := Aside0.mk (below_step HB1.out HBr.out)
        clear KG1 KR1 HBr HB1 KGr KRr
        have hn0 : 0 < xs.length := HNE.out
        go_wp2_with (first | (go_at_call 110; (with_reducible refine (parts_calls k_ n1 ps KGb.out KRb.out H2.out).mono ?_); rintro e w7 ⟨vp, rfl, hv, hb⟩; have KP7 := Aside0.mk hv; have KG7 := Aside0.mk (blk_below KGb.out hb); have KR7 := Aside0.mk (Kd.R_below KRb.out hb); have HB7 := Aside0.mk (below_step HBb.out hb); have S7 := Aside0.mk (below_step HBb.out hb).size; have cg1 : w7.cell? ⟨g, 1, none⟩ = some (.slice (some ⟨gi, 0, none⟩) xs.length cap) := (blk_cell KG7.out 1).trans rfl; obtain ⟨gp, cp, hvp, hgp, _⟩ := Kd.R_form KP7.out (by have := HP.out; omega); rw [HP.out] at hvp; subst hvp; have HGP := Aside0.mk (Nat.le_trans HBb.out.size hgp); have SB := Aside0.mk HBb.out.size; clear hv hb hgp) | ((with_reducible refine gate_dst (N := 50) rfl ?_); refine Kd.R_make (Kd.int .i64) _ 3 rfl (N := 50) rfl 51 _ _ rfl (xs.length : Int) rfl rfl Try.underlying51 (.int .i64 0) 8 info3 rfl (by decide) (by omega) 0 (ok := fun _ => True) (okp := fun _ => True) rfl (fun _ hk => hk) trivial (by omega) (by omega) (Below.refl _ _) (Nat.le_refl _) ?_; intro vy w8 ho hb hg_ hat; have KY8 : Aside0 ((Kd.int .i64).R 3 w8 w7.heap.size (fun _ => True) vy (bys ps xs 0)) := ⟨ho⟩; have KG8 := Aside0.mk (blk_below KG7.out hb); have KR8 := Aside0.mk (Kd.R_below KR7.out hb); have KP8 := Aside0.mk (Kd.R_below KP7.out hb); have HB8 := Aside0.mk (below_step HB7.out hb); have HNY := Aside0.mk hg_; have cg1 : w8.cell? ⟨g, 1, none⟩ = some (.slice (some ⟨gi, 0, none⟩) xs.length cap) := (blk_cell KG8.out 1).trans rfl; obtain ⟨gy, cy, hvy, hgy, _⟩ := Kd.R_form KY8.out (by rw [bys_length]; omega); rw [bys_length] at hvy; subst hvy; have HGY := Aside0.mk (Nat.le_trans HB7.out.size hgy); have HY7 := Aside0.mk hgy; have B78 := Aside0.mk hb; clear ho hg_ hat hb hgy))
        clear cg1 KG7 KR7 HB7 KGb KRb HBb
        have KY := Aside0.mk (Kd.R_mono (Kd.R_bound (Kd.R_lower (base' := w.heap.size) KY8.out S7.out)) (ok' := fun q => w.heap.size ≤ q) (fun _ hk => hk.2.1))
        have KP := Aside0.mk (Kd.R_below (Kd.R_mono (Kd.R_bound (Kd.R_lower (base' := w.heap.size) KP7.out SB.out)) (ok' := fun q => w.heap.size ≤ q ∧ q ≠ gy) (fun q hk => ⟨hk.2.1, by have := hk.2.2.1; have := HY7.out; omega⟩)) B78.out)
        have HB := Aside0.mk (show Below base w w8 from ⟨HB8.out.os, HB8.out.tape, HB8.out.output, HB8.out.size, fun q hq => HB8.out.block q (by have := HBS.out; have := HGI.out; have := HGW.out; omega)⟩)
        go_loopw [8, 56] (fun c i wr => ∃ k : Nat, k ≤ xs.length ∧ i = .int .i64 k ∧ c = .int .i64 (changes ps xs k) ∧ Aside0 (wr.heap[g]? = some (cells96 room (some ⟨gi, 0, none⟩) xs.length cap gr)) ∧ Aside0 (k99.R 99 wr base (fun k => k < g) (.slice (some ⟨gi, 0, none⟩) xs.length cap) (turned ps xs k)) ∧ Aside0 ((Kd.int .i64).R 3 wr w.heap.size (fun k => w.heap.size ≤ k) (.slice (some ⟨gy, 0, none⟩) xs.length cy) (bys ps xs k)) ∧ Aside0 ((Kd.int .i64).R 3 wr w.heap.size (fun k => w.heap.size ≤ k ∧ k ≠ gy) (.slice (some ⟨gp, 0, none⟩) xs.length cp) ps) ∧ Aside0 (Below base w wr)) (fun _ i _ => xs.length - (intOf i).toNat)
        case atStart => exact ⟨0, Nat.zero_le _, rfl, rfl, KG8, KR8, KY, KP, HB⟩
        case round =>
          clear KG8 KR8 KY8 KP8 HB8 KY KP HB KP7
          obtain ⟨k, hk, rfl, rfl, KG, KR, KY, KP, HB⟩ := hrel
          by_cases hlt : k < xs.length
          · skip
            have hrow : rd_T99 (turned ps xs k) k = rd_T99 xs k := by show (turned ps xs k).getD ((k : Int).toNat) z99 = xs.getD ((k : Int).toNat) z99; rw [Int.toNat_natCast]; exact turned_rest ps xs k k (Nat.le_refl k)
            obtain ⟨x, hx⟩ : ∃ x, rd_T99 xs k = x := ⟨_, rfl⟩
            have hx0 := (row_get KR.out k (by omega) (by omega) 0 _ rfl).1
            rw [hrow] at hx0
            simp only [Int.toNat_natCast, Nat.add_zero, hx] at hx0
            have hx1 := (row_get KR.out k (by omega) (by omega) 1 _ rfl).1
            rw [hrow] at hx1
            simp only [Int.toNat_natCast, Nat.add_zero, hx] at hx1
            have hx2 := (row_get KR.out k (by omega) (by omega) 2 _ rfl).1
            rw [hrow] at hx2
            simp only [Int.toNat_natCast, Nat.add_zero, hx] at hx2
            have hx3 := (row_get KR.out k (by omega) (by omega) 3 _ rfl).1
            rw [hrow] at hx3
            simp only [Int.toNat_natCast, Nat.add_zero, hx] at hx3
            have hx4 := (row_get KR.out k (by omega) (by omega) 4 _ rfl).1
            rw [hrow] at hx4
            simp only [Int.toNat_natCast, Nat.add_zero, hx] at hx4
            have hx5 := (row_get KR.out k (by omega) (by omega) 5 _ rfl).1
            rw [hrow] at hx5
            simp only [Int.toNat_natCast, Nat.add_zero, hx] at hx5
            have hx6 := (row_get KR.out k (by omega) (by omega) 6 _ rfl).1
            rw [hrow] at hx6
            simp only [Int.toNat_natCast, Nat.add_zero, hx] at hx6
            have hx7 := (row_get KR.out k (by omega) (by omega) 7 _ rfl).1
            rw [hrow] at hx7
            simp only [Int.toNat_natCast, Nat.add_zero, hx] at hx7
            have hx8 := (row_get KR.out k (by omega) (by omega) 8 _ rfl).1
            rw [hrow] at hx8
            simp only [Int.toNat_natCast, Nat.add_zero, hx] at hx8
            have cx8i := row_get KR.out k (by omega) (by omega) 8 _ rfl
            rw [hrow, hx] at cx8i
            obtain ⟨py, hpy⟩ : ∃ py, rd ps k = py := ⟨_, rfl⟩
            obtain ⟨wd, hwd⟩ : ∃ wd, wouldOf ps xs k = wd := ⟨_, rfl⟩
            obtain ⟨is, his⟩ : ∃ is, isOf ps xs k = is := ⟨_, rfl⟩
            obtain ⟨by_, hby⟩ : ∃ b, byOf ps xs k = b := ⟨_, rfl⟩
            have hwd2 : wrap64 (x.f0.f0 + py) = wd := by rw [← hwd, ← hpy, ← hx]; rfl
            have his2 : betw wd x.f0.f1 x.f0.f2 = is := by rw [← his, ← hwd, ← hx]; rfl
            have hby2 : wrap64 (is - cut wd) = by_ := by rw [← hby, ← his, ← hwd]; rfl
            have HCH : Aside0 (changes ps xs (k + 1) = if x.f2 then changes ps xs k else wrap64 (changes ps xs k + by_)) := ⟨by rw [← hx, ← hby]; rfl⟩
            have HTU : Aside0 (turned ps xs (k + 1) = if x.f2 then turned ps xs k else (turned ps xs k).set k (told x is)) := ⟨by rw [← hx, ← his]; rfl⟩
            have HBY : Aside0 (bys ps xs (k + 1) = if x.f2 then bys ps xs k else (bys ps xs k).set k by_) := ⟨by rw [← hx, ← hby]; rfl⟩
            obtain ⟨ch, hch⟩ : ∃ ch, changes ps xs k = ch := ⟨_, rfl⟩
            rw [hch] at HCH ⊢
            have KX8 := Aside0.mk cx8i
            have HROW := Aside0.mk hrow
            have HX := Aside0.mk hx
            clear hch hwd his hby cx8i hrow hx
            obtain ⟨⟨a0, a1, a2, a3, a4, a5⟩, a6, a7, a8⟩ := x
            simp only at hwd2 his2
            have HPY := Aside0.mk hpy
            have HWD := Aside0.mk hwd2
            have HIS := Aside0.mk his2
            have HBYD := Aside0.mk hby2
            clear hpy hwd2 his2 hby2
            cases a7
            · simp only at hx0 hx1 hx2 hx3 hx4 hx5 hx6 hx7 hx8
              go_wp2_with (first | ((with_reducible refine gate_dst (N := 12) rfl ?_); refine box_event rfl (N := 12) rfl (cs := #[.int .i64 0, .int .i64 0, .int .i64 0, .int .i64 0, .int .i64 0, .int .i64 0, .int .i64 0, .bool false, .int .i64 0]) (t := 99) (by first | (go_simp; done) | (go_simp; rfl)) ?_; intro gx hgx w2 hbx hb; have KX0 := Aside0.mk hbx; have HGX : Aside0 (wr.heap.size ≤ gx) := ⟨by omega⟩; have BX := Aside0.mk hb; clear hgx hbx hb) | ((with_reducible refine gate_store (t := 99) (p := 12) rfl ?_); refine store_event (t := 99) (p := 12) (w1 := w2.setCells gx 0 (#[.int .i64 a0, .int .i64 a1, .int .i64 a2, .int .i64 a3, .int .i64 a4, .int .i64 a5, .int .i64 a6, .bool false, .int .i64 a8] : Array Value).toList) rfl rfl rfl (store_run 99 (.tmp 12) (.tmp 60) gx #[.int .i64 a0, .int .i64 a1, .int .i64 a2, .int .i64 a3, .int .i64 a4, .int .i64 a5, .int .i64 a6, .bool false, .int .i64 a8] rfl rfl rfl (there_row KX0.out _ (Nat.le_refl 9)) (by kernel_rfl) (all_oneCell_toArray (cs := [.int .i64 a0, .int .i64 a1, .int .i64 a2, .int .i64 a3, .int .i64 a4, .int .i64 a5, .int .i64 a6, .bool false, .int .i64 a8]) (by intro v hv; simp only [List.mem_cons, List.not_mem_nil, or_false] at hv; rcases hv with rfl | rfl | rfl | rfl | rfl | rfl | rfl | rfl | rfl <;> rfl))) ?_; intro w3 hw3; have KX : Aside0 (w3.heap[gx]? = some (.cells #[.int .i64 a0, .int .i64 a1, .int .i64 a2, .int .i64 a3, .int .i64 a4, .int .i64 a5, .int .i64 a6, .bool false, .int .i64 a8] 99 (0, 0))) := ⟨by rw [hw3]; exact sets_row KX0.out rfl⟩; have BX3 : Aside0 (Below wr.heap.size wr w3) := ⟨by rw [hw3]; exact sets_below HGX.out _ 0 _ BX.out⟩; clear hw3; have cx0 : w3.cell? ⟨gx, 0, none⟩ = some (.int .i64 a0) := (blk_cell KX.out 0).trans rfl; have cx1 : w3.cell? ⟨gx, 1, none⟩ = some (.int .i64 a1) := (blk_cell KX.out 1).trans rfl; have cx2 : w3.cell? ⟨gx, 2, none⟩ = some (.int .i64 a2) := (blk_cell KX.out 2).trans rfl; have cx3 : w3.cell? ⟨gx, 3, none⟩ = some (.int .i64 a3) := (blk_cell KX.out 3).trans rfl; have cx4 : w3.cell? ⟨gx, 4, none⟩ = some (.int .i64 a4) := (blk_cell KX.out 4).trans rfl; have cx5 : w3.cell? ⟨gx, 5, none⟩ = some (.int .i64 a5) := (blk_cell KX.out 5).trans rfl; have cx6 : w3.cell? ⟨gx, 6, none⟩ = some (.int .i64 a6) := (blk_cell KX.out 6).trans rfl; have cx7 : w3.cell? ⟨gx, 7, none⟩ = some (.bool false) := (blk_cell KX.out 7).trans rfl; have cx8 : w3.cell? ⟨gx, 8, none⟩ = some (.int .i64 a8) := (blk_cell KX.out 8).trans rfl))
              have KG3 := Aside0.mk (blk_below KG.out BX3.out)
              have KX3 := Aside0.mk KX.out
              have KR3 := Aside0.mk (Kd.R_below KR.out BX3.out)
              have KY3 := Aside0.mk (Kd.R_below KY.out BX3.out)
              have KP3 := Aside0.mk (Kd.R_below KP.out BX3.out)
              have HB3 := Aside0.mk (below_then HB.out (by have := HB.out.size; have := HBS.out; have := HGI.out; have := HGW.out; omega) BX3.out)
              have HGXW : Aside0 (w.heap.size ≤ gx) := ⟨by have := HGX.out; have := HB.out.size; omega⟩
              clear cx0 hx0 cx1 hx1 cx2 hx2 cx3 hx3 cx4 hx4 cx5 hx5 cx6 hx6 cx7 hx7 cx8 hx8 KX0 BX KX BX3 HGX
              have hkp := (Kd.R_celln (0 : Int) KP3.out (k : Int) (by omega) (by omega)).1
              simp only [Int.toNat_natCast] at hkp
              have hkp2 : w3.cell? ⟨gp, k, none⟩ = some (.int .i64 py) := by rw [← HPY.out]; exact hkp
              clear hkp
              refine start_ (n := 9) (S := fun w' => w'.cell? ⟨gx, 0, none⟩ = some (.int .i64 a0) ∧ w'.cell? ⟨gp, k, none⟩ = some (.int .i64 py)) (ds := []) #[false, false, false, false, false, false, false, false, false] (by kernel_rfl) rfl rfl ⟨(blk_cell (show w3.drew.heap[gx]? = _ from KX3.out) 0).trans rfl, (show w3.drew.cell? ⟨gp, k, none⟩ = _ from hkp2)⟩ (fun hHeld => ?_)
              refine pure_ (i := 0) (N := some 63) (v := ?_) (a' := ?_) #[true, false, false, false, false, false, false, false, false] rfl rfl (by kernel_rfl) (fun _ _ _ h => h) (Or.inl ⟨by rfl, ?_⟩) ?_ ?_
              rotate_left
              · intro w'
                go_simp
                with_reducible rfl
              rotate_left
              · simp only [Act.put, List.setIfInBounds_toArray, List.set_cons_zero, List.set_cons_succ, i64_w, i32_w]
                rfl
              refine pure_ (i := 1) (N := some 64) (v := ?_) (a' := ?_) #[true, true, false, false, false, false, false, false, false] rfl rfl (by kernel_rfl) (fun _ _ _ h => h) (Or.inl ⟨by rfl, ?_⟩) ?_ ?_
              rotate_left
              · intro w'
                go_simp
                with_reducible rfl
              rotate_left
              · simp only [Act.put, List.setIfInBounds_toArray, List.set_cons_zero, List.set_cons_succ, i64_w, i32_w]
                rfl
              refine pure_ (i := 3) (N := some 66) (v := ?_) (a' := ?_) #[true, true, false, true, false, false, false, false, false] rfl rfl (by kernel_rfl) (fun _ _ _ h => h) (Or.inl ⟨by rfl, ?_⟩) ?_ ?_
              rotate_left
              · intro w'
                go_simp
                with_reducible rfl
              rotate_left
              · simp only [Act.put, List.setIfInBounds_toArray, List.set_cons_zero, List.set_cons_succ, i64_w, i32_w]
                rfl
              refine pure_ (i := 4) (N := some 67) (v := ?_) (a' := ?_) #[true, true, false, true, true, false, false, false, false] rfl rfl (by kernel_rfl) (fun _ _ _ h => h) (Or.inl ⟨by rfl, ?_⟩) ?_ ?_
              rotate_left
              · intro w'
                go_simp
                with_reducible rfl
              rotate_left
              · simp only [Act.put, List.setIfInBounds_toArray, List.set_cons_zero, List.set_cons_succ, i64_w, i32_w]
                rfl
              refine pure_ (i := 5) (N := some 68) (v := ?_) (a' := ?_) #[true, true, false, true, true, true, false, false, false] rfl rfl (by kernel_rfl) (fun _ _ _ h => h) (Or.inl ⟨by rfl, ?_⟩) ?_ ?_
              rotate_left
              · intro w'
                go_simp
                with_reducible rfl
              rotate_left
              · simp only [Act.put, List.setIfInBounds_toArray, List.set_cons_zero, List.set_cons_succ, i64_w, i32_w]
                rfl
              refine take_ (i := 2) (N := some 65) (v := ?_) (a' := ?_) #[true, true, true, true, true, true, false, false, false] rfl rfl (by kernel_rfl) (fun _ _ _ h => h) (Or.inl ⟨by rfl, ?_⟩) hHeld ?_ ?_
              rotate_left
              · rintro w' ⟨s0, s1⟩
                go_simp
                with_reducible rfl
              rotate_left
              · simp only [Act.put, List.setIfInBounds_toArray, List.set_cons_zero, List.set_cons_succ, i64_w, i32_w]
                rfl
              refine take_ (i := 6) (N := some 69) (v := ?_) (a' := ?_) #[true, true, true, true, true, true, true, false, false] rfl rfl (by kernel_rfl) (fun _ _ _ h => h) (Or.inl ⟨by rfl, ?_⟩) hHeld ?_ ?_
              rotate_left
              · rintro w' ⟨s0, s1⟩
                go_simp
                with_reducible rfl
              rotate_left
              · simp only [Act.put, List.setIfInBounds_toArray, List.set_cons_zero, List.set_cons_succ, i64_w, i32_w]
                rfl
              refine pure_ (i := 7) (N := some 70) (v := ?_) (a' := ?_) #[true, true, true, true, true, true, true, true, false] rfl rfl (by kernel_rfl) (fun _ _ _ h => h) (Or.inl ⟨by rfl, ?_⟩) ?_ ?_
              rotate_left
              · intro w'
                go_simp
                with_reducible rfl
              rotate_left
              · simp only [Act.put, List.setIfInBounds_toArray, List.set_cons_zero, List.set_cons_succ, i64_w, i32_w]
                rfl
              refine pure_ (i := 8) (N := some 13) (v := ?_) (a' := ?_) #[true, true, true, true, true, true, true, true, true] rfl rfl (by kernel_rfl) (fun _ _ _ h => h) (Or.inl ⟨by rfl, ?_⟩) ?_ ?_
              rotate_left
              · intro w'
                go_simp
                with_reducible rfl
              rotate_left
              · simp only [Act.put, List.setIfInBounds_toArray, List.set_cons_zero, List.set_cons_succ, i64_w, i32_w]
                rfl
              refine done_ (by kernel_rfl) ?_
              have KG4 := Aside0.mk (show (w3.drew).heap[g]? = some (cells96 room (some ⟨gi, 0, none⟩) xs.length cap gr) from KG3.out)
              have KX4 := Aside0.mk (show (w3.drew).heap[gx]? = some (.cells #[.int .i64 a0, .int .i64 a1, .int .i64 a2, .int .i64 a3, .int .i64 a4, .int .i64 a5, .int .i64 a6, .bool false, .int .i64 a8] 99 (0, 0)) from KX3.out)
              have KR4 := Aside0.mk (Kd.R_drew KR3.out)
              have KY4 := Aside0.mk (Kd.R_drew KY3.out)
              have KP4 := Aside0.mk (Kd.R_drew KP3.out)
              have HB4 := Aside0.mk (below_drew1b HB3.out)
              clear hHeld hkp2
              generalize w3.drew = w4 at KG4 KX4 KR4 KY4 KP4 HB4 ⊢
              go_wp2_with fail
              rw [HWD.out]
              have HIF : Aside0 (fix_Between.f wd a1 a2 = some is) := ⟨by rw [betw_a, HIS.out]⟩
              have cg1 : w4.cell? ⟨g, 1, none⟩ = some (.slice (some ⟨gi, 0, none⟩) xs.length cap) := (blk_cell KG4.out 1).trans rfl
              refine start_ (n := 16) (S := fun w' => w'.cell? ⟨g, 1, none⟩ = some (.slice (some ⟨gi, 0, none⟩) xs.length cap) ∧ w'.cell? ⟨gx, 1, none⟩ = some (.int .i64 a1) ∧ w'.cell? ⟨gx, 2, none⟩ = some (.int .i64 a2)) (ds := [15]) #[false, false, false, false, false, false, false, false, false, false, false, false, false, false, false, false] (by kernel_rfl) rfl rfl ⟨(blk_cell (show (w4.drew).heap[g]? = some (cells96 room (some ⟨gi, 0, none⟩) xs.length cap gr) from KG4.out) 1).trans rfl, (blk_cell (show (w4.drew).heap[gx]? = some (.cells #[.int .i64 a0, .int .i64 a1, .int .i64 a2, .int .i64 a3, .int .i64 a4, .int .i64 a5, .int .i64 a6, .bool false, .int .i64 a8] 99 (0, 0)) from KX4.out) 1).trans rfl, (blk_cell (show (w4.drew).heap[gx]? = some (.cells #[.int .i64 a0, .int .i64 a1, .int .i64 a2, .int .i64 a3, .int .i64 a4, .int .i64 a5, .int .i64 a6, .bool false, .int .i64 a8] 99 (0, 0)) from KX4.out) 2).trans rfl⟩ (fun hHeld => ?_)
              refine pure_ (i := 0) (N := some 71) (v := ?_) (a' := ?_) #[true, false, false, false, false, false, false, false, false, false, false, false, false, false, false, false] rfl rfl (by kernel_rfl) (fun _ _ _ h => h) (Or.inl ⟨by rfl, ?_⟩) ?_ ?_
              rotate_left
              · intro w'
                go_simp
                with_reducible rfl
              rotate_left
              · simp only [Act.put, List.setIfInBounds_toArray, List.set_cons_zero, List.set_cons_succ, i64_w, i32_w]
                rfl
              refine pure_ (i := 1) (N := some 72) (v := ?_) (a' := ?_) #[true, true, false, false, false, false, false, false, false, false, false, false, false, false, false, false] rfl rfl (by kernel_rfl) (fun _ _ _ h => h) (Or.inl ⟨by rfl, ?_⟩) ?_ ?_
              rotate_left
              · intro w'
                go_simp
                with_reducible rfl
              rotate_left
              · simp only [Act.put, List.setIfInBounds_toArray, List.set_cons_zero, List.set_cons_succ, i64_w, i32_w]
                rfl
              refine pure_ (i := 2) (N := some 73) (v := ?_) (a' := ?_) #[true, true, true, false, false, false, false, false, false, false, false, false, false, false, false, false] rfl rfl (by kernel_rfl) (fun _ _ _ h => h) (Or.inl ⟨by rfl, ?_⟩) ?_ ?_
              rotate_left
              · intro w'
                go_simp
                with_reducible rfl
              rotate_left
              · simp only [Act.put, List.setIfInBounds_toArray, List.set_cons_zero, List.set_cons_succ, i64_w, i32_w]
                rfl
              refine pure_ (i := 4) (N := some 75) (v := ?_) (a' := ?_) #[true, true, true, false, true, false, false, false, false, false, false, false, false, false, false, false] rfl rfl (by kernel_rfl) (fun _ _ _ h => h) (Or.inl ⟨by rfl, ?_⟩) ?_ ?_
              rotate_left
              · intro w'
                go_simp
                with_reducible rfl
              rotate_left
              · simp only [Act.put, List.setIfInBounds_toArray, List.set_cons_zero, List.set_cons_succ, i64_w, i32_w]
                rfl
              refine pure_ (i := 5) (N := some 76) (v := ?_) (a' := ?_) #[true, true, true, false, true, true, false, false, false, false, false, false, false, false, false, false] rfl rfl (by kernel_rfl) (fun _ _ _ h => h) (Or.inl ⟨by rfl, ?_⟩) ?_ ?_
              rotate_left
              · intro w'
                go_simp
                with_reducible rfl
              rotate_left
              · simp only [Act.put, List.setIfInBounds_toArray, List.set_cons_zero, List.set_cons_succ, i64_w, i32_w]
                rfl
              refine pure_ (i := 6) (N := some 77) (v := ?_) (a' := ?_) #[true, true, true, false, true, true, true, false, false, false, false, false, false, false, false, false] rfl rfl (by kernel_rfl) (fun _ _ _ h => h) (Or.inl ⟨by rfl, ?_⟩) ?_ ?_
              rotate_left
              · intro w'
                go_simp
                with_reducible rfl
              rotate_left
              · simp only [Act.put, List.setIfInBounds_toArray, List.set_cons_zero, List.set_cons_succ, i64_w, i32_w]
                rfl
              refine pure_ (i := 7) (N := some 78) (v := ?_) (a' := ?_) #[true, true, true, false, true, true, true, true, false, false, false, false, false, false, false, false] rfl rfl (by kernel_rfl) (fun _ _ _ h => h) (Or.inl ⟨by rfl, ?_⟩) ?_ ?_
              rotate_left
              · intro w'
                go_simp
                with_reducible rfl
              rotate_left
              · simp only [Act.put, List.setIfInBounds_toArray, List.set_cons_zero, List.set_cons_succ, i64_w, i32_w]
                rfl
              refine pure_ (i := 9) (N := some 80) (v := ?_) (a' := ?_) #[true, true, true, false, true, true, true, true, false, true, false, false, false, false, false, false] rfl rfl (by kernel_rfl) (fun _ _ _ h => h) (Or.inl ⟨by rfl, ?_⟩) ?_ ?_
              rotate_left
              · intro w'
                go_simp
                with_reducible rfl
              rotate_left
              · simp only [Act.put, List.setIfInBounds_toArray, List.set_cons_zero, List.set_cons_succ, i64_w, i32_w]
                rfl
              refine pure_ (i := 10) (N := some 81) (v := ?_) (a' := ?_) #[true, true, true, false, true, true, true, true, false, true, true, false, false, false, false, false] rfl rfl (by kernel_rfl) (fun _ _ _ h => h) (Or.inl ⟨by rfl, ?_⟩) ?_ ?_
              rotate_left
              · intro w'
                go_simp
                with_reducible rfl
              rotate_left
              · simp only [Act.put, List.setIfInBounds_toArray, List.set_cons_zero, List.set_cons_succ, i64_w, i32_w]
                rfl
              refine take_ (i := 3) (N := some 74) (v := ?_) (a' := ?_) #[true, true, true, true, true, true, true, true, false, true, true, false, false, false, false, false] rfl rfl (by kernel_rfl) (fun _ _ _ h => h) (Or.inl ⟨by rfl, ?_⟩) hHeld ?_ ?_
              rotate_left
              · rintro w' ⟨s0, s1, s2⟩
                go_simp
                with_reducible rfl
              rotate_left
              · simp only [Act.put, List.setIfInBounds_toArray, List.set_cons_zero, List.set_cons_succ, i64_w, i32_w]
                rfl
              refine take_ (i := 8) (N := some 79) (v := ?_) (a' := ?_) #[true, true, true, true, true, true, true, true, true, true, true, false, false, false, false, false] rfl rfl (by kernel_rfl) (fun _ _ _ h => h) (Or.inl ⟨by rfl, ?_⟩) hHeld ?_ ?_
              rotate_left
              · rintro w' ⟨s0, s1, s2⟩
                go_simp
                with_reducible rfl
              rotate_left
              · simp only [Act.put, List.setIfInBounds_toArray, List.set_cons_zero, List.set_cons_succ, i64_w, i32_w]
                rfl
              refine take_ (i := 11) (N := some 82) (v := ?_) (a' := ?_) #[true, true, true, true, true, true, true, true, true, true, true, true, false, false, false, false] rfl rfl (by kernel_rfl) (fun _ _ _ h => h) (Or.inl ⟨by rfl, ?_⟩) hHeld ?_ ?_
              rotate_left
              · rintro w' ⟨s0, s1, s2⟩
                go_simp
                with_reducible rfl
              rotate_left
              · simp only [Act.put, List.setIfInBounds_toArray, List.set_cons_zero, List.set_cons_succ, i64_w, i32_w]
                rfl
              refine one_ (i := 12) (N := some 83) #[true, true, true, true, true, true, true, true, true, true, true, true, true, false, false, false] rfl rfl (by kernel_rfl) (by decide) (fun K hK => ?_)
              refine goes_ Try.func106 (by kernel_rfl) rfl #[.int .i64 wd, .int .i64 a1, .int .i64 a2] (by rfl) rfl rfl (by simp only [List.map_toArray, List.map_cons, List.map_nil]; rfl) ?_
              with_reducible refine (fix_Between.calls wd a1 a2 is _ HIF.out).mono ?_
              rintro e w5 ⟨rfl, hb⟩
              refine ⟨_, rfl, ?_⟩
              have KG5 := Aside0.mk (blk_below (show (w4.drew).heap[g]? = some (cells96 room (some ⟨gi, 0, none⟩) xs.length cap gr) from KG4.out) hb)
              have KX5 := Aside0.mk (blk_below (show (w4.drew).heap[gx]? = some (.cells #[.int .i64 a0, .int .i64 a1, .int .i64 a2, .int .i64 a3, .int .i64 a4, .int .i64 a5, .int .i64 a6, .bool false, .int .i64 a8] 99 (0, 0)) from KX4.out) hb)
              have KR5 := Aside0.mk (Kd.R_below (Kd.R_drew KR4.out) hb)
              have KY5 := Aside0.mk (Kd.R_below (Kd.R_drew KY4.out) hb)
              have KP5 := Aside0.mk (Kd.R_below (Kd.R_drew KP4.out) hb)
              have HB5 := Aside0.mk (below_then (below_drew1b HB4.out) (by have := HB4.out.size; have := HBS.out; have := HGI.out; have := HGW.out; show base ≤ w4.heap.size; omega) hb)
              have hrk : rd_T99 (turned ps xs k) k = ⟨⟨a0, a1, a2, a3, a4, a5⟩, a6, false, a8⟩ := HROW.out.trans HX.out
              obtain ⟨cs8, cf8⟩ := row_get KR5.out k (by omega) (by omega) 8 _ rfl
              simp only [Int.toNat_natCast] at cs8 cf8
              rw [hrk] at cs8
              simp only at cs8
              clear hrk hb
              refine hK.out _ _ ⟨(blk_cell KG5.out 1).trans rfl, (blk_cell KX5.out 1).trans rfl, (blk_cell KX5.out 2).trans rfl⟩ (fun hHeld => ?_)
              clear hK K
              refine norm_ (a' := ?_) ?_ ?_
              rotate_left
              · show Act.put _ (some 83) _ = _
                simp only [Act.put, List.setIfInBounds_toArray, List.set_cons_zero, List.set_cons_succ, i64_w, i32_w]
                rfl
              refine pure_ (i := 13) (N := some 84) (v := ?_) (a' := ?_) #[true, true, true, true, true, true, true, true, true, true, true, true, true, true, false, false] rfl rfl (by kernel_rfl) (fun _ _ _ h => h) (Or.inl ⟨by rfl, ?_⟩) ?_ ?_
              rotate_left
              · intro w'
                go_simp
                with_reducible rfl
              rotate_left
              · simp only [Act.put, List.setIfInBounds_toArray, List.set_cons_zero, List.set_cons_succ, i64_w, i32_w]
                rfl
              refine pure_ (i := 14) (N := some 85) (v := ?_) (a' := ?_) #[true, true, true, true, true, true, true, true, true, true, true, true, true, true, true, false] rfl rfl (by kernel_rfl) (fun _ _ _ h => h) (Or.inl ⟨by rfl, ?_⟩) ?_ ?_
              rotate_left
              · intro w'
                go_simp
                with_reducible rfl
              rotate_left
              · simp only [Act.put, List.setIfInBounds_toArray, List.set_cons_zero, List.set_cons_succ, i64_w, i32_w]
                rfl
              refine last_ (i := 15) (N := none) #[true, true, true, true, true, true, true, true, true, true, true, true, true, true, true, true] rfl rfl (by kernel_rfl) (by decide) (fun K hK => ?_)
              refine skip_ (w1 := ?_) (by rfl) rfl ?_ ?_
              rotate_left
              · go_simp
                rfl
              refine hK.out _ _ ?_
              clear hK K
              refine done_ (by kernel_rfl) ?_
              have ngi : g ≠ gi := by have := HGI.out; omega
              have nxi : gx ≠ gi := by have := HGI.out; have := HGW.out; have := HGXW.out; omega
              have hrk : rd_T99 (turned ps xs k) k = ⟨⟨a0, a1, a2, a3, a4, a5⟩, a6, false, a8⟩ := HROW.out.trans HX.out
              have hset := row_set KR5.out k (by omega) (by omega) 8 (by omega) (.int .i64 is) ⟨⟨a0, a1, a2, a3, a4, a5⟩, a6, false, is⟩ (by rw [hrk]; rfl)
              simp only [Int.toNat_natCast] at hset
              have far5 : ∀ q, w.heap.size ≤ q → q ≠ gi := fun q hq => by have := HGI.out; have := HGW.out; omega
              have KG6 := Aside0.mk (show ((w5.setCell ⟨gi, k * 9 + 8, none⟩ (.int .i64 is))).heap[g]? = some (cells96 room (some ⟨gi, 0, none⟩) xs.length cap gr) from blk_far KG5.out ngi _)
              have KX6 := Aside0.mk (show ((w5.setCell ⟨gi, k * 9 + 8, none⟩ (.int .i64 is))).heap[gx]? = some (.cells #[.int .i64 a0, .int .i64 a1, .int .i64 a2, .int .i64 a3, .int .i64 a4, .int .i64 a5, .int .i64 a6, .bool false, .int .i64 a8] 99 (0, 0)) from blk_far KX5.out nxi _)
              have KR6 := Aside0.mk hset
              have KY6 := Aside0.mk (Kd.R_far (p := ⟨gi, k * 9 + 8, none⟩) KY5.out far5 (.int .i64 is))
              have KP6 := Aside0.mk (Kd.R_far (p := ⟨gi, k * 9 + 8, none⟩) KP5.out (fun q hq => far5 q hq.1) (.int .i64 is))
              have HB6 := Aside0.mk (HB5.out.setCell (p := ⟨gi, k * 9 + 8, none⟩) HBS.out (.int .i64 is))
              clear hHeld cs8 cf8 hset hrk cg1
              generalize (w5.setCell ⟨gi, k * 9 + 8, none⟩ (.int .i64 is)) = w6 at KG6 KX6 KR6 KY6 KP6 HB6 ⊢
              go_wp2_with fail
              have hrk : rd_T99 ((turned ps xs k).set k ⟨⟨a0, a1, a2, a3, a4, a5⟩, a6, false, is⟩) k = ⟨⟨a0, a1, a2, a3, a4, a5⟩, a6, false, is⟩ := by show List.getD _ (k : Int).toNat _ = _; rw [Int.toNat_natCast, List.getD_eq_getElem?_getD, List.getElem?_set_self (by rw [turned_length]; exact hlt)]; rfl
              have HRK := Aside0.mk hrk
              clear hrk far5
              have ci8 := (row_get KR6.out k (by omega) (by omega) 8 _ rfl).1
              simp only [Int.toNat_natCast] at ci8
              rw [HRK.out] at ci8
              simp only at ci8
              refine start_ (n := 15) (S := fun w' => w'.cell? ⟨g, 1, none⟩ = some (.slice (some ⟨gi, 0, none⟩) xs.length cap) ∧ w'.cell? ⟨gi, k * 9 + 8, none⟩ = some (.int .i64 is)) (ds := [14]) #[false, false, false, false, false, false, false, false, false, false, false, false, false, false, false] (by kernel_rfl) rfl rfl ⟨(blk_cell (show (w6.drew).heap[g]? = some (cells96 room (some ⟨gi, 0, none⟩) xs.length cap gr) from KG6.out) 1).trans rfl, (show w6.drew.cell? _ = _ from ci8)⟩ (fun hHeld => ?_)
              refine pure_ (i := 0) (N := some 86) (v := ?_) (a' := ?_) #[true, false, false, false, false, false, false, false, false, false, false, false, false, false, false] rfl rfl (by kernel_rfl) (fun _ _ _ h => h) (Or.inl ⟨by rfl, ?_⟩) ?_ ?_
              rotate_left
              · intro w'
                go_simp
                with_reducible rfl
              rotate_left
              · simp only [Act.put, List.setIfInBounds_toArray, List.set_cons_zero, List.set_cons_succ, i64_w, i32_w]
                rfl
              refine pure_ (i := 1) (N := some 87) (v := ?_) (a' := ?_) #[true, true, false, false, false, false, false, false, false, false, false, false, false, false, false] rfl rfl (by kernel_rfl) (fun _ _ _ h => h) (Or.inl ⟨by rfl, ?_⟩) ?_ ?_
              rotate_left
              · intro w'
                go_simp
                with_reducible rfl
              rotate_left
              · simp only [Act.put, List.setIfInBounds_toArray, List.set_cons_zero, List.set_cons_succ, i64_w, i32_w]
                rfl
              refine pure_ (i := 2) (N := some 88) (v := ?_) (a' := ?_) #[true, true, true, false, false, false, false, false, false, false, false, false, false, false, false] rfl rfl (by kernel_rfl) (fun _ _ _ h => h) (Or.inl ⟨by rfl, ?_⟩) ?_ ?_
              rotate_left
              · intro w'
                go_simp
                with_reducible rfl
              rotate_left
              · simp only [Act.put, List.setIfInBounds_toArray, List.set_cons_zero, List.set_cons_succ, i64_w, i32_w]
                rfl
              refine pure_ (i := 3) (N := some 89) (v := ?_) (a' := ?_) #[true, true, true, true, false, false, false, false, false, false, false, false, false, false, false] rfl rfl (by kernel_rfl) (fun _ _ _ h => h) (Or.inl ⟨by rfl, ?_⟩) ?_ ?_
              rotate_left
              · intro w'
                go_simp
                with_reducible rfl
              rotate_left
              · simp only [Act.put, List.setIfInBounds_toArray, List.set_cons_zero, List.set_cons_succ, i64_w, i32_w]
                rfl
              refine pure_ (i := 4) (N := some 90) (v := ?_) (a' := ?_) #[true, true, true, true, true, false, false, false, false, false, false, false, false, false, false] rfl rfl (by kernel_rfl) (fun _ _ _ h => h) (Or.inl ⟨by rfl, ?_⟩) ?_ ?_
              rotate_left
              · intro w'
                go_simp
                with_reducible rfl
              rotate_left
              · simp only [Act.put, List.setIfInBounds_toArray, List.set_cons_zero, List.set_cons_succ, i64_w, i32_w]
                rfl
              refine pure_ (i := 6) (N := some 92) (v := ?_) (a' := ?_) #[true, true, true, true, true, false, true, false, false, false, false, false, false, false, false] rfl rfl (by kernel_rfl) (fun _ _ _ h => h) (Or.inl ⟨by rfl, ?_⟩) ?_ ?_
              rotate_left
              · intro w'
                go_simp
                with_reducible rfl
              rotate_left
              · simp only [Act.put, List.setIfInBounds_toArray, List.set_cons_zero, List.set_cons_succ, i64_w, i32_w]
                rfl
              refine pure_ (i := 10) (N := some 96) (v := ?_) (a' := ?_) #[true, true, true, true, true, false, true, false, false, false, true, false, false, false, false] rfl rfl (by kernel_rfl) (fun _ _ _ h => h) (Or.inl ⟨by rfl, ?_⟩) ?_ ?_
              rotate_left
              · intro w'
                go_simp
                with_reducible rfl
              rotate_left
              · simp only [Act.put, List.setIfInBounds_toArray, List.set_cons_zero, List.set_cons_succ, i64_w, i32_w]
                rfl
              refine take_ (i := 5) (N := some 91) (v := ?_) (a' := ?_) #[true, true, true, true, true, true, true, false, false, false, true, false, false, false, false] rfl rfl (by kernel_rfl) (fun _ _ _ h => h) (Or.inl ⟨by rfl, ?_⟩) hHeld ?_ ?_
              rotate_left
              · rintro w' ⟨s0, s1⟩
                go_simp
                with_reducible rfl
              rotate_left
              · simp only [Act.put, List.setIfInBounds_toArray, List.set_cons_zero, List.set_cons_succ, i64_w, i32_w]
                rfl
              refine pure_ (i := 7) (N := some 93) (v := ?_) (a' := ?_) #[true, true, true, true, true, true, true, true, false, false, true, false, false, false, false] rfl rfl (by kernel_rfl) (fun _ _ _ h => h) (Or.inl ⟨by rfl, ?_⟩) ?_ ?_
              rotate_left
              · intro w'
                go_simp
                with_reducible rfl
              rotate_left
              · simp only [Act.put, List.setIfInBounds_toArray, List.set_cons_zero, List.set_cons_succ, i64_w, i32_w]
                rfl
              refine pure_ (i := 8) (N := some 94) (v := ?_) (a' := ?_) #[true, true, true, true, true, true, true, true, true, false, true, false, false, false, false] rfl rfl (by kernel_rfl) (fun _ _ _ h => h) (Or.inl ⟨by rfl, ?_⟩) ?_ ?_
              rotate_left
              · intro w'
                go_simp
                with_reducible rfl
              rotate_left
              · simp only [Act.put, List.setIfInBounds_toArray, List.set_cons_zero, List.set_cons_succ, i64_w, i32_w]
                rfl
              refine take_ (i := 9) (N := some 95) (v := ?_) (a' := ?_) #[true, true, true, true, true, true, true, true, true, true, true, false, false, false, false] rfl rfl (by kernel_rfl) (fun _ _ _ h => h) (Or.inl ⟨by rfl, ?_⟩) hHeld ?_ ?_
              rotate_left
              · rintro w' ⟨s0, s1⟩
                go_simp
                with_reducible rfl
              rotate_left
              · simp only [Act.put, List.setIfInBounds_toArray, List.set_cons_zero, List.set_cons_succ, i64_w, i32_w]
                rfl
              refine one_ (i := 11) (N := some 97) #[true, true, true, true, true, true, true, true, true, true, true, true, false, false, false] rfl rfl (by kernel_rfl) (by decide) (fun K hK => ?_)
              refine goes_ Try.func51 (by kernel_rfl) rfl #[.int .i64 wd] (by rfl) rfl rfl (by simp only [List.map_toArray, List.map_cons, List.map_nil]; rfl) ?_
              with_reducible refine (fix_Cut.calls wd (cut wd) _ (cut_a wd)).mono ?_
              rintro e w7 ⟨rfl, hb⟩
              refine ⟨_, rfl, ?_⟩
              have KG7 := Aside0.mk (blk_below (show (w6.drew).heap[g]? = some (cells96 room (some ⟨gi, 0, none⟩) xs.length cap gr) from KG6.out) hb)
              have KX7 := Aside0.mk (blk_below (show (w6.drew).heap[gx]? = some (.cells #[.int .i64 a0, .int .i64 a1, .int .i64 a2, .int .i64 a3, .int .i64 a4, .int .i64 a5, .int .i64 a6, .bool false, .int .i64 a8] 99 (0, 0)) from KX6.out) hb)
              have KR7 := Aside0.mk (Kd.R_below (Kd.R_drew KR6.out) hb)
              have KY7 := Aside0.mk (Kd.R_below (Kd.R_drew KY6.out) hb)
              have KP7 := Aside0.mk (Kd.R_below (Kd.R_drew KP6.out) hb)
              have HB7 := Aside0.mk (below_then (below_drew1b HB6.out) (by have := HB6.out.size; have := HBS.out; have := HGI.out; have := HGW.out; show base ≤ w6.heap.size; omega) hb)
              have cj8 := (row_get KR7.out k (by omega) (by omega) 8 _ rfl).1
              simp only [Int.toNat_natCast] at cj8
              rw [HRK.out] at cj8
              simp only at cj8
              obtain ⟨cy8, cfy8⟩ := Kd.R_celln (0 : Int) KY7.out (k : Int) (by omega) (by omega)
              simp only [Int.toNat_natCast] at cy8 cfy8
              clear hb
              refine hK.out _ _ ⟨(blk_cell KG7.out 1).trans rfl, cj8⟩ (fun hHeld => ?_)
              clear hK K
              refine norm_ (a' := ?_) ?_ ?_
              rotate_left
              · show Act.put _ (some 97) _ = _
                simp only [Act.put, List.setIfInBounds_toArray, List.set_cons_zero, List.set_cons_succ, i64_w, i32_w]
                rfl
              refine pure_ (i := 12) (N := some 98) (v := ?_) (a' := ?_) #[true, true, true, true, true, true, true, true, true, true, true, true, true, false, false] rfl rfl (by kernel_rfl) (fun _ _ _ h => h) (Or.inl ⟨by rfl, ?_⟩) ?_ ?_
              rotate_left
              · intro w'
                go_simp
                with_reducible rfl
              rotate_left
              · simp only [Act.put, List.setIfInBounds_toArray, List.set_cons_zero, List.set_cons_succ, i64_w, i32_w]
                rfl
              refine pure_ (i := 13) (N := some 99) (v := ?_) (a' := ?_) #[true, true, true, true, true, true, true, true, true, true, true, true, true, true, false] rfl rfl (by kernel_rfl) (fun _ _ _ h => h) (Or.inl ⟨by rfl, ?_⟩) ?_ ?_
              rotate_left
              · intro w'
                go_simp
                with_reducible rfl
              rotate_left
              · simp only [Act.put, List.setIfInBounds_toArray, List.set_cons_zero, List.set_cons_succ, i64_w, i32_w]
                rfl
              refine last_ (i := 14) (N := none) #[true, true, true, true, true, true, true, true, true, true, true, true, true, true, true] rfl rfl (by kernel_rfl) (by decide) (fun K hK => ?_)
              refine skip_ (w1 := ?_) (by rfl) rfl ?_ ?_
              rotate_left
              · go_simp
                rfl
              refine hK.out _ _ ?_
              clear hK K
              refine done_ (by kernel_rfl) ?_
              rw [HBYD.out]
              have ngy : g ≠ gy := by have := HGY.out; have := HGW.out; omega
              have niy : gi ≠ gy := by have := HGI.out; have := HGY.out; have := HGW.out; omega
              have hset := Kd.R_putn KY7.out (k : Int) by_
              simp only [Int.toNat_natCast] at hset
              have far7 : ∀ q, w.heap.size ≤ q ∧ q ≠ gy → q ≠ gy := fun q hq => hq.2
              have KG8 := Aside0.mk (show ((w7.setCell ⟨gy, k, none⟩ (.int .i64 by_))).heap[g]? = some (cells96 room (some ⟨gi, 0, none⟩) xs.length cap gr) from blk_far KG7.out ngy _)
              have KR8 := Aside0.mk (Kd.R_far (p := ⟨gy, k, none⟩) KR7.out (fun q hq => by show q ≠ gy; have := HGY.out; have := HGW.out; omega) (.int .i64 by_))
              have KY8 := Aside0.mk hset
              have KP8 := Aside0.mk (Kd.R_far (p := ⟨gy, k, none⟩) KP7.out far7 (.int .i64 by_))
              have HB8 := Aside0.mk (HB7.out.setCell (p := ⟨gy, k, none⟩) (by have := HGY.out; have := HBS.out; have := HGI.out; have := HGW.out; show base ≤ gy; omega) (.int .i64 by_))
              clear hHeld cj8 cy8 cfy8 hset ci8 far7
              generalize (w7.setCell ⟨gy, k, none⟩ (.int .i64 by_)) = w8 at KG8 KR8 KY8 KP8 HB8 ⊢
              have hyk := (Kd.R_celln (0 : Int) KY8.out (k : Int) (by omega) (by omega)).1
              simp only [Int.toNat_natCast] at hyk
              have hyk2 : w8.cell? ⟨gy, k, none⟩ = some (.int .i64 by_) := by rw [hyk]; show some (Value.int .i64 (rd ((bys ps xs k).set k by_) k)) = _; unfold rd; rw [Int.toNat_natCast, List.getD_eq_getElem?_getD, List.getElem?_set_self (by rw [bys_length]; exact hlt)]; rfl
              clear hyk
              go_wp2
              go_roundw
              case rel => exact ⟨k + 1, by omega, by go_num, by rw [HCH.out]; rfl, KG8, ⟨by rw [HTU.out]; exact KR8.out⟩, ⟨by rw [HBY.out]; exact KY8.out⟩, KP8, HB8⟩
              case measure => simp [intOf]; omega
            · simp only at hx0 hx1 hx2 hx3 hx4 hx5 hx6 hx7 hx8
              go_wp2_with (first | ((with_reducible refine gate_dst (N := 12) rfl ?_); refine box_event rfl (N := 12) rfl (cs := #[.int .i64 0, .int .i64 0, .int .i64 0, .int .i64 0, .int .i64 0, .int .i64 0, .int .i64 0, .bool false, .int .i64 0]) (t := 99) (by first | (go_simp; done) | (go_simp; rfl)) ?_; intro gx hgx w2 hbx hb; have KX0 := Aside0.mk hbx; have HGX : Aside0 (wr.heap.size ≤ gx) := ⟨by omega⟩; have BX := Aside0.mk hb; clear hgx hbx hb) | ((with_reducible refine gate_store (t := 99) (p := 12) rfl ?_); refine store_event (t := 99) (p := 12) (w1 := w2.setCells gx 0 (#[.int .i64 a0, .int .i64 a1, .int .i64 a2, .int .i64 a3, .int .i64 a4, .int .i64 a5, .int .i64 a6, .bool true, .int .i64 a8] : Array Value).toList) rfl rfl rfl (store_run 99 (.tmp 12) (.tmp 60) gx #[.int .i64 a0, .int .i64 a1, .int .i64 a2, .int .i64 a3, .int .i64 a4, .int .i64 a5, .int .i64 a6, .bool true, .int .i64 a8] rfl rfl rfl (there_row KX0.out _ (Nat.le_refl 9)) (by kernel_rfl) (all_oneCell_toArray (cs := [.int .i64 a0, .int .i64 a1, .int .i64 a2, .int .i64 a3, .int .i64 a4, .int .i64 a5, .int .i64 a6, .bool true, .int .i64 a8]) (by intro v hv; simp only [List.mem_cons, List.not_mem_nil, or_false] at hv; rcases hv with rfl | rfl | rfl | rfl | rfl | rfl | rfl | rfl | rfl <;> rfl))) ?_; intro w3 hw3; have KX : Aside0 (w3.heap[gx]? = some (.cells #[.int .i64 a0, .int .i64 a1, .int .i64 a2, .int .i64 a3, .int .i64 a4, .int .i64 a5, .int .i64 a6, .bool true, .int .i64 a8] 99 (0, 0))) := ⟨by rw [hw3]; exact sets_row KX0.out rfl⟩; have BX3 : Aside0 (Below wr.heap.size wr w3) := ⟨by rw [hw3]; exact sets_below HGX.out _ 0 _ BX.out⟩; clear hw3; have cx0 : w3.cell? ⟨gx, 0, none⟩ = some (.int .i64 a0) := (blk_cell KX.out 0).trans rfl; have cx1 : w3.cell? ⟨gx, 1, none⟩ = some (.int .i64 a1) := (blk_cell KX.out 1).trans rfl; have cx2 : w3.cell? ⟨gx, 2, none⟩ = some (.int .i64 a2) := (blk_cell KX.out 2).trans rfl; have cx3 : w3.cell? ⟨gx, 3, none⟩ = some (.int .i64 a3) := (blk_cell KX.out 3).trans rfl; have cx4 : w3.cell? ⟨gx, 4, none⟩ = some (.int .i64 a4) := (blk_cell KX.out 4).trans rfl; have cx5 : w3.cell? ⟨gx, 5, none⟩ = some (.int .i64 a5) := (blk_cell KX.out 5).trans rfl; have cx6 : w3.cell? ⟨gx, 6, none⟩ = some (.int .i64 a6) := (blk_cell KX.out 6).trans rfl; have cx7 : w3.cell? ⟨gx, 7, none⟩ = some (.bool true) := (blk_cell KX.out 7).trans rfl; have cx8 : w3.cell? ⟨gx, 8, none⟩ = some (.int .i64 a8) := (blk_cell KX.out 8).trans rfl))
              go_roundw
              case rel => exact ⟨k + 1, by omega, by go_num, by rw [HCH.out]; rfl, ⟨blk_below KG.out BX3.out⟩, ⟨by rw [HTU.out]; exact Kd.R_below KR.out BX3.out⟩, ⟨by rw [HBY.out]; exact Kd.R_below KY.out BX3.out⟩, ⟨Kd.R_below KP.out BX3.out⟩, ⟨below_then HB.out (by have := HB.out.size; have := HBS.out; have := HGI.out; have := HGW.out; omega) BX3.out⟩⟩
              case measure => simp [intOf]; omega
          · obtain rfl : k = xs.length := by omega
            have cg1 : wr.cell? ⟨g, 1, none⟩ = some (.slice (some ⟨gi, 0, none⟩) xs.length cap) := (blk_cell KG.out 1).trans rfl
            obtain ⟨c, hc⟩ : ∃ c, changes ps xs xs.length = c := ⟨_, rfl⟩
            obtain ⟨bs, hbs⟩ : ∃ bs, bys ps xs xs.length = bs := ⟨_, rfl⟩
            obtain ⟨ys, hys⟩ : ∃ ys, turned ps xs xs.length = ys := ⟨_, rfl⟩
            have LB : bs.length = xs.length := by rw [← hbs]; exact bys_length ps xs _
            have LY : ys.length = xs.length := by rw [← hys]; exact turned_length ps xs _
            have HLB := Aside0.mk LB
            have HLY := Aside0.mk LY
            rw [hbs] at KY
            rw [hys] at KR
            rw [hc]
            have HEND : Aside0 (∀ n, settled c bs ys n = settled (changes ps xs xs.length) (bys ps xs xs.length) (turned ps xs xs.length) n) := ⟨fun n => by rw [hc, hbs, hys]⟩
            clear hc hbs hys LB LY
            go_wp2
            clear cg1
            go_loopw [112] (fun i wq => ∃ k : Nat, k ≤ xs.length ∧ i = .int .i64 k ∧ Aside0 (wq.heap[g]? = some (cells96 room (some ⟨gi, 0, none⟩) xs.length cap gr)) ∧ Aside0 (k99.R 99 wq base (fun k => k < g) (.slice (some ⟨gi, 0, none⟩) xs.length cap) (settled c bs ys k)) ∧ Aside0 ((Kd.int .i64).R 3 wq w.heap.size (fun k => w.heap.size ≤ k) (.slice (some ⟨gy, 0, none⟩) xs.length cy) bs) ∧ Aside0 (Below base w wq)) (fun i _ => xs.length - (intOf i).toNat)
            case atStart => exact ⟨0, Nat.zero_le _, rfl, KG, KR, KY, HB⟩
            case round =>
              clear KG KR KY KP HB
              obtain ⟨k, hk, rfl, KG, KR, KY, HB⟩ := hrel
              by_cases hlt : k < xs.length
              · skip
                have hyk := (Kd.R_celln (0 : Int) KY.out (k : Int) (by omega) (by omega)).1
                simp only [Int.toNat_natCast] at hyk
                obtain ⟨b, hb⟩ : ∃ b, rd bs k = b := ⟨_, rfl⟩
                have hyb : wr.cell? ⟨gy, k, none⟩ = some (.int .i64 b) := by rw [← hb]; exact hyk
                have HSB : Aside0 (settled c bs ys (k + 1) = if settles c b then (settled c bs ys k).set k (shut (rd_T99 ys k)) else settled c bs ys k) := ⟨by rw [← hb]; rfl⟩
                have hrow : rd_T99 (settled c bs ys k) k = rd_T99 ys k := by show (settled c bs ys k).getD ((k : Int).toNat) z99 = ys.getD ((k : Int).toNat) z99; rw [Int.toNat_natCast]; exact settled_rest c bs ys k k (Nat.le_refl k)
                have HROW3 := Aside0.mk hrow
                have cg1 : wr.cell? ⟨g, 1, none⟩ = some (.slice (some ⟨gi, 0, none⟩) xs.length cap) := (blk_cell KG.out 1).trans rfl
                obtain ⟨cs7, cf7⟩ := row_get KR.out k (by omega) (by omega) 7 _ rfl
                simp only [Int.toNat_natCast] at cs7 cf7
                clear hb hyk hrow
                rcases (by omega : c = 0 ∨ 0 < c ∨ c < 0) with h0 | h0 | h0
                · have e0 : (c == 0) = true := by rw [h0]; rfl
                  clear h0
                  skip
                  · have HT : Aside0 (settles c b = true) := ⟨by unfold settles; simp only [gt_iff_lt]; rw [e0]; rfl⟩
                    rw [HT.out] at HSB
                    go_wp2
                    go_roundw
                    case rel =>
                      have hset := row_set KR.out k (by omega) (by omega) 7 (by omega) (.bool true) (shut (rd_T99 ys k)) (by rw [HROW3.out]; rfl)
                      simp only [Int.toNat_natCast] at hset
                      exact ⟨k + 1, by omega, by go_num, ⟨blk_far KG.out (by have := HGI.out; show g ≠ gi; omega) _⟩, ⟨by rw [HSB.out]; exact hset⟩, ⟨Kd.R_far (p := ⟨gi, k * 9 + 7, none⟩) KY.out (fun q hq => by show q ≠ gi; have := HGI.out; have := HGW.out; omega) _⟩, ⟨HB.out.setCell (p := ⟨gi, k * 9 + 7, none⟩) HBS.out _⟩⟩
                    case measure => simp [intOf]; omega
                · have e0 : (c == 0) = false := beq_eq_false_iff_ne.mpr (by omega)
                  have e1 : decide (0 < c) = true := decide_eq_true h0
                  have e2 : decide (c < 0) = false := decide_eq_false (by omega)
                  clear h0
                  by_cases h1 : 0 < b
                  · have e3 : decide (0 < b) = true := decide_eq_true h1
                    clear h1
                    · have HT : Aside0 (settles c b = true) := ⟨by unfold settles; simp only [gt_iff_lt]; rw [e0, e1, e3]; rfl⟩
                      rw [HT.out] at HSB
                      go_wp2
                      go_roundw
                      case rel =>
                        have hset := row_set KR.out k (by omega) (by omega) 7 (by omega) (.bool true) (shut (rd_T99 ys k)) (by rw [HROW3.out]; rfl)
                        simp only [Int.toNat_natCast] at hset
                        exact ⟨k + 1, by omega, by go_num, ⟨blk_far KG.out (by have := HGI.out; show g ≠ gi; omega) _⟩, ⟨by rw [HSB.out]; exact hset⟩, ⟨Kd.R_far (p := ⟨gi, k * 9 + 7, none⟩) KY.out (fun q hq => by show q ≠ gi; have := HGI.out; have := HGW.out; omega) _⟩, ⟨HB.out.setCell (p := ⟨gi, k * 9 + 7, none⟩) HBS.out _⟩⟩
                      case measure => simp [intOf]; omega
                  · have e3 : decide (0 < b) = false := decide_eq_false h1
                    clear h1
                    · have HT : Aside0 (settles c b = false) := ⟨by unfold settles; simp only [gt_iff_lt]; rw [e0, e1, e3, e2]; rfl⟩
                      rw [HT.out] at HSB
                      go_wp2
                      go_roundw
                      case rel => exact ⟨k + 1, by omega, by go_num, KG, ⟨by rw [HSB.out]; exact KR.out⟩, KY, HB⟩
                      case measure => simp [intOf]; omega
                · have e0 : (c == 0) = false := beq_eq_false_iff_ne.mpr (by omega)
                  have e1 : decide (0 < c) = false := decide_eq_false (by omega)
                  have e2 : decide (c < 0) = true := decide_eq_true h0
                  clear h0
                  by_cases h1 : b < 0
                  · have e3 : decide (b < 0) = true := decide_eq_true h1
                    clear h1
                    · have HT : Aside0 (settles c b = true) := ⟨by unfold settles; simp only [gt_iff_lt]; rw [e0, e1, e2, e3]; rfl⟩
                      rw [HT.out] at HSB
                      go_wp2
                      go_roundw
                      case rel =>
                        have hset := row_set KR.out k (by omega) (by omega) 7 (by omega) (.bool true) (shut (rd_T99 ys k)) (by rw [HROW3.out]; rfl)
                        simp only [Int.toNat_natCast] at hset
                        exact ⟨k + 1, by omega, by go_num, ⟨blk_far KG.out (by have := HGI.out; show g ≠ gi; omega) _⟩, ⟨by rw [HSB.out]; exact hset⟩, ⟨Kd.R_far (p := ⟨gi, k * 9 + 7, none⟩) KY.out (fun q hq => by show q ≠ gi; have := HGI.out; have := HGW.out; omega) _⟩, ⟨HB.out.setCell (p := ⟨gi, k * 9 + 7, none⟩) HBS.out _⟩⟩
                      case measure => simp [intOf]; omega
                  · have e3 : decide (b < 0) = false := decide_eq_false h1
                    clear h1
                    · have HT : Aside0 (settles c b = false) := ⟨by unfold settles; simp only [gt_iff_lt]; rw [e0, e1, e2, e3]; rfl⟩
                      rw [HT.out] at HSB
                      go_wp2
                      go_roundw
                      case rel => exact ⟨k + 1, by omega, by go_num, KG, ⟨by rw [HSB.out]; exact KR.out⟩, KY, HB⟩
                      case measure => simp [intOf]; omega
              · obtain rfl : k = xs.length := by omega
                go_wp2
                refine bodyPost_end (results_none rfl _ _ _) rfl ?_
                exact ⟨rfl, KG.out, by rw [← HEND.out]; exact KR.out, HB.out⟩
end Go.Proofs.Ytaejmgdpnnhpmaa.QFlex
