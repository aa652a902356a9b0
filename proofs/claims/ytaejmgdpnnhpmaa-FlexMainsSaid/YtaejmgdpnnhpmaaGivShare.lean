/- fix.Share, walked by hand. -/
import Derived.Test.YtaejmgdpnnhpmaaQFlexx1
import Derived.Test.YtaejmgdpnnhpmaaQFlexx3
import Derived.Test.YtaejmgdpnnhpmaaQFlexx7
namespace Go.Proofs.Ytaejmgdpnnhpmaa.QFlex
open Go.RowKit Go.Proofs.YtaejmgdpnnhpmaaW.PrintWords Go.Proofs.YtaejmgdpnnhpmaaW.PrintLast Go.Proofs.YtaejmgdpnnhpmaaW.PrintMore
attribute [local go_sem] max2_int min2_int max_two min_two max_three min_three max_four min_four
set_option linter.unusedVariables false
set_option linter.unusedSimpArgs false
def cut (n : Int) : Int := if n > 16777216 then 16777216 else (if n < (-16777216) then (-16777216) else n)
theorem cut_le (n : Int) : -16777216 ≤ cut n ∧ cut n ≤ 16777216 := by
  unfold cut
  repeat' split
  all_goals omega
theorem cut_a (n : Int) : fix_Cut.f n = some (cut n) := by
  unfold fix_Cut.f cut mn mx
  congr 1
  repeat' split
  all_goals omega
theorem cut_b (n : Int) : clerestoryref3_Cut.f n = some (cut n) := by
  unfold clerestoryref3_Cut.f cut
  repeat' split
  all_goals rfl
theorem tdiv_le (n d : Int) : -(n.natAbs : Int) ≤ n.tdiv d ∧ n.tdiv d ≤ (n.natAbs : Int) := by
  have h := Int.natAbs_tdiv n d
  have h2 : n.natAbs.div d.natAbs ≤ n.natAbs := Nat.div_le_self _ _
  omega
theorem floor_a (n d : Int) (h0 : -4611686018427387904 ≤ n) (h1 : n ≤ 4611686018427387904) (hd : d ≠ 0) : fix_floor.f n d = some (n.fdiv d) := by
  have hb := tdiv_le n d
  have w0 : wrap64 (n.tdiv d) = n.tdiv d := by unfold wrap64; omega
  have w1 : wrap64 (n.tdiv d - 1) = n.tdiv d - 1 := by unfold wrap64; omega
  unfold fix_floor.f
  rw [if_neg hd, w0, w1, Int.fdiv_eq_tdiv]
  by_cases h : d ∣ n
  · rw [if_pos (Int.tmod_eq_zero_of_dvd h), if_pos h]; simp
  · rw [if_neg (fun e => h (Int.dvd_iff_tmod_eq_zero.mpr e)), if_neg h]
    rcases (by omega : n < 0 ∨ 0 ≤ n) with a | a <;> rcases (by omega : d < 0 ∨ 0 < d) with b | b
    · rw [if_neg (by simp [a, b]), if_neg (by omega), if_neg (by omega), Int.sign_eq_neg_one_of_neg b]; congr 1; omega
    · rw [if_pos (by simp [a]; omega), if_neg (by omega), if_pos (by omega), Int.sign_eq_one_of_pos b]
    · rw [if_pos (by simp [b]; omega), if_pos a, if_neg (by omega)]
    · rw [if_neg (by simp; omega), if_pos a, if_pos (by omega)]; congr 1; omega
theorem down_b (n d : Int) (h0 : -4611686018427387904 ≤ n) (h1 : n ≤ 4611686018427387904) (hd : 0 < d) : clerestoryref3_down.f n d = some (n.fdiv d) := by
  have hb := tdiv_le n d
  have w0 : wrap64 (n.tdiv d) = n.tdiv d := by unfold wrap64; omega
  have w1 : wrap64 (n.tdiv d - 1) = n.tdiv d - 1 := by unfold wrap64; omega
  unfold clerestoryref3_down.f
  rw [if_neg (by omega), w0, w1, Int.fdiv_eq_tdiv]
  have hs := Int.sign_tmod n d
  by_cases h : d ∣ n
  · rw [if_neg (by rw [Int.tmod_eq_zero_of_dvd h]; omega), if_pos h]; simp
  · rw [if_neg h] at hs ⊢
    rcases (by omega : n < 0 ∨ 0 ≤ n) with a | a
    · rw [Int.sign_eq_neg_one_of_neg a] at hs
      rw [if_pos (Int.neg_of_sign_eq_neg_one hs), if_neg (by omega), if_pos (by omega), Int.sign_eq_one_of_pos hd]
    · rw [if_neg (by have := Int.tmod_nonneg d a; omega), if_pos a, if_pos (by omega)]; simp

def wt (ws : List Int) (k : Int) : Int := if 1000 ≤ k then 0 else mx 0 (cut (rd ws k))
def psum (ws : List Int) : Nat → Int
  | 0 => 0
  | k + 1 => psum ws k + wt ws k
def fix_Share_1.f (ws : List Int) (k : Int) : Option Int := if k ≥ 1000 then some 0 else (if 0 ≤ k then (if k < (ws.length : Int) then ((fix_Cut.f (rd ws k)).bind fun t => some (mx 0 t)) else none) else none)
set_option maxHeartbeats 8000000 in
set_option maxRecDepth 100000 in
theorem fix_Share_1.calls (ws : List Int) (A : Option Addr) (c g : Nat) (k r : Int) (w : World) (hg : w.heap[g]? = some (.cells #[.slice A ws.length c] 51 (0, 0))) (hr : Kd.C (Kd.int .i64) w A ws.length ws) (h : fix_Share_1.f ws k = some r) :
    Calls Try.prog 112 #[.int .i64 k, .pointer (some ⟨g, 0, none⟩)] w fun e w' => e = .returned (.int .i64 r) ∧ Below w.heap.size w w' := by
  have hcell : w.cell? ⟨g, 0, none⟩ = some (.slice A ws.length c) := by rw [blk_cell hg]; rfl
  have HB := Aside0.mk (Below.refl w.heap.size w)
  have HR := Aside0.mk hr
  clear hr hg
  unfold fix_Share_1.f at h
  by_cases c1 : k ≥ 1000
  · rw [if_pos c1] at h
    have c1b : decide (1000 ≤ k) = true := decide_eq_true c1
    clear c1
    obtain rfl := Option.some.inj h
    go_enter Try.func112, Try.ntmps112
    go_wp2
    go_ret
    exact ⟨rfl, HB.out⟩
  · rw [if_neg c1] at h
    have c1b : decide (1000 ≤ k) = false := decide_eq_false c1
    by_cases c2 : 0 ≤ k
    · rw [if_pos c2] at h
      by_cases c3 : k < (ws.length : Int)
      · rw [if_pos c3] at h
        obtain ⟨t, ht, h⟩ := Option.bind_eq_some_iff.mp h
        have HT := Aside0.mk ht
        clear ht c1
        obtain rfl := Option.some.inj h
        obtain ⟨ad, e, hx⟩ := Kd.at_int HR.out k c2 c3
        cases e
        have c2b := eq_true c2
        have c3b := eq_true c3
        clear c2 c3 h
        obtain ⟨m, hm⟩ : ∃ m : Int, mx 0 t = m := ⟨_, rfl⟩
        have hm_ : (if 0 < t then t else 0) = m := hm
        rw [hm]
        go_enter Try.func112, Try.ntmps112
        go_wp2_with (go_at_call 51; (with_reducible refine (fix_Cut.calls (rd ws k) t _ HT.out).mono ?_); rintro e w1 ⟨rfl, hb⟩; have HB1 := Aside0.mk hb; clear hb)
        go_ret
        exact ⟨by simp only [← hm]; rfl, HB1.out⟩
      · rw [if_neg c3] at h
        cases h
    · rw [if_neg c2] at h
      cases h

theorem wt_le (ws : List Int) (k : Int) : 0 ≤ wt ws k ∧ wt ws k ≤ 16777216 := by
  unfold wt mx
  have := cut_le (rd ws k)
  repeat' split
  all_goals omega
theorem psum_le (ws : List Int) (k : Nat) : 0 ≤ psum ws k ∧ psum ws k ≤ 16777216000 ∧ (k ≤ 1000 → psum ws k ≤ 16777216 * k) := by
  induction k with
  | zero => exact ⟨Int.le_refl 0, by show (0 : Int) ≤ _; omega, fun _ => by show (0 : Int) ≤ _; omega⟩
  | succ k ih =>
    obtain ⟨h0, h1, h2⟩ := ih
    have hw := wt_le ws k
    have hz : 1000 ≤ k → wt ws k = 0 := fun h => by unfold wt; rw [if_pos (by omega)]
    show 0 ≤ psum ws k + wt ws k ∧ psum ws k + wt ws k ≤ 16777216000 ∧ (k + 1 ≤ 1000 → psum ws k + wt ws k ≤ 16777216 * ((k + 1 : Nat) : Int))
    rcases Nat.lt_or_ge k 1000 with h | h
    · have := h2 (by omega)
      exact ⟨by omega, by omega, fun _ => by omega⟩
    · rw [hz h]
      exact ⟨by omega, by omega, fun _ => by omega⟩
theorem share1_f (ws : List Int) (k : Nat) (h : k < ws.length) : fix_Share_1.f ws k = some (wt ws k) := by
  unfold fix_Share_1.f wt
  by_cases c : (k : Int) ≥ 1000
  · rw [if_pos c, if_pos c]
  · rw [if_neg c, if_neg c, if_pos (by omega), if_pos (by omega), cut_a]
    rfl
/-- What each has of n: the list told so far (k of them), the rest noughts. -/
def shared (n : Int) (ws : List Int) (k : Nat) : List Int := (List.range k).map fun j => (n * psum ws (j + 1)).fdiv (psum ws ws.length) - (n * psum ws j).fdiv (psum ws ws.length)
def share (n : Int) (ws : List Int) : List Int := if psum ws ws.length = 0 then List.replicate ws.length 0 else shared (cut n) ws ws.length
theorem fdiv_le (n d : Int) (hd : 0 < d) : -(n.natAbs : Int) ≤ n.fdiv d ∧ n.fdiv d ≤ (n.natAbs : Int) := by
  rw [Int.fdiv_eq_ediv_of_nonneg _ (by omega)]
  rcases (by omega : n < 0 ∨ 0 ≤ n) with h | h
  · have h1 : n / d < 0 := Int.ediv_neg_of_neg_of_pos h hd
    have h2 : n ≤ n / d := by
      rw [Int.le_ediv_iff_mul_le hd]
      have : n * d ≤ n * 1 := Int.mul_le_mul_of_nonpos_left (by omega) (by omega)
      omega
    omega
  · have h1 : 0 ≤ n / d := Int.ediv_nonneg h (by omega)
    have h2 : n / d ≤ n := Int.ediv_le_self _ h
    omega
theorem part_le (n s : Int) (h0 : 0 ≤ s) (h1 : s ≤ 16777216000) : -281474976710656000 ≤ cut n * s ∧ cut n * s ≤ 281474976710656000 := by
  have hc := cut_le n
  have h : (cut n * s).natAbs ≤ 16777216 * 16777216000 := by rw [Int.natAbs_mul]; exact Nat.mul_le_mul (by omega) (by omega)
  omega
theorem share_f (n s all : Int) (h0 : 0 ≤ s) (h1 : s ≤ 16777216000) (ha : all ≠ 0) : fix_share.f (cut n) s all = some ((cut n * s).fdiv all) := by
  have hp := part_le n s h0 h1
  unfold fix_share.f
  have w : wrap64 (cut n * s) = cut n * s := by unfold wrap64; omega
  rw [w, floor_a _ _ (by omega) (by omega) ha]
  rfl
theorem shared_length (n : Int) (ws : List Int) (k : Nat) : (shared n ws k).length = k := by simp [shared]
theorem shared_snoc (n : Int) (ws : List Int) (k : Nat) : shared n ws (k + 1) = shared n ws k ++ [(n * psum ws (k + 1)).fdiv (psum ws ws.length) - (n * psum ws k).fdiv (psum ws ws.length)] := by
  simp [shared, List.range_succ]
theorem shared_set (n : Int) (ws : List Int) (k m : Nat) : (shared n ws k ++ List.replicate (m + 1) 0).set k ((n * psum ws (k + 1)).fdiv (psum ws ws.length) - (n * psum ws k).fdiv (psum ws ws.length)) = shared n ws (k + 1) ++ List.replicate m 0 := by
  rw [List.set_append_right _ _ (by rw [shared_length]; omega), shared_length, Nat.sub_self, List.replicate_succ, List.set_cons_zero, shared_snoc, List.append_assoc]
  rfl
set_option maxHeartbeats 8000000 in
set_option maxRecDepth 100000 in
theorem fix_Share.walk (n : Int) (A : Option Addr) (c : Nat) (ws : List Int) (w : World) (hr : Kd.C (Kd.int .i64) w A ws.length ws) (hc : ws.length ≤ c) (hl : ws.length * 8 ≤ 140737488351232) :
    Calls Try.prog 80 #[.int .i64 n, .slice A ws.length c] w fun e w' => ∃ v : Value, e = .returned v ∧ Kd.R (Kd.int .i64) 3 w' w.heap.size (fun _ => True) v (share n ws) ∧ Below w.heap.size w w' := by
  have HR := Aside0.mk hr
  have HB := Aside0.mk (Below.refl w.heap.size w)
  have hlen : (ws.length : Int) ≤ 9223372036854775807 := by omega
  have HL := Aside0.mk hl
  clear hr hl
  go_enter Try.func80, Try.ntmps80
  go_wp2_with (first
    | (go_at_call 51; (with_reducible refine (fix_Cut.calls n (cut n) _ (cut_a n)).mono ?_); rintro e w1 ⟨rfl, hb⟩; have HG := Aside0.mk (blk_below (blk_new w _) hb); have hcell : w1.cell? ⟨w.heap.size, 0, none⟩ = some (.slice A ws.length c) := (by rw [blk_cell HG.out]; rfl); have HB1 := Aside0.mk (below_step (below_alloc (Below.refl _ _) _) hb); clear hb)
    | ((with_reducible refine gate_dst (N := 17) rfl ?_); refine Kd.R_make (Kd.int .i64) _ 3 rfl (N := 17) rfl 51 _ _ rfl (ws.length : Int) rfl rfl Try.underlying51 (.int .i64 0) 8 info3 rfl (by decide) (by omega) 0 (ok := fun _ => True) (okp := fun _ => True) rfl (fun _ hk => hk) trivial (by omega) (by have := HL.out; omega) (Below.refl _ _) (Nat.le_refl _) ?_; intro v1 w2 ho hb hg hat; have HO := Aside0.mk ho; have HB2 := Aside0.mk hb; have HG2 := Aside0.mk (blk_below HG.out hb); have hcell2 : w2.cell? ⟨w.heap.size, 0, none⟩ = some (.slice A ws.length c) := (by rw [blk_cell HG2.out]; rfl); clear ho hb hg hat))
  go_loopw [7, 21] (fun v i wr => ∃ k : Nat, k ≤ ws.length ∧ i = .int .i64 k ∧ v = .int .i64 (psum ws k) ∧ Aside0 (Below w2.heap.size w2 wr)) (fun _ i _ => ws.length - (intOf i).toNat)
  case atStart => exact ⟨0, Nat.zero_le _, rfl, rfl, ⟨Below.refl _ _⟩⟩
  case round =>
    obtain ⟨k, hk, rfl, rfl, HBr⟩ := hrel
    obtain ⟨p0, p1, _⟩ := psum_le ws k
    obtain ⟨q0, q1⟩ := wt_le ws k
    have HGr := Aside0.mk (blk_below HG2.out HBr.out)
    have hcellr : wr.cell? ⟨w.heap.size, 0, none⟩ = some (.slice A ws.length c) := by rw [blk_cell HGr.out]; rfl
    have HRr := Aside0.mk (Kd.C_below (Kd.C_below (Kd.C_below HR.out HB1.out) HB2.out) HBr.out)
    by_cases hlt : k < ws.length
    · go_wp2_with (go_at_call 112; (with_reducible refine (fix_Share_1.calls ws A c w.heap.size k (wt ws k) _ HGr.out HRr.out (share1_f ws k hlt)).mono ?_); rintro e w3 ⟨rfl, hb⟩; have HB3 := Aside0.mk hb; clear hb)
      go_roundw
      case rel => exact ⟨k + 1, by omega, by go_num, by go_num, ⟨below_step HBr.out HB3.out⟩⟩
      case measure => simp [intOf]; omega
    · obtain rfl : k = ws.length := by omega
      have hw2 : ((ws.length : Nat) : Int).toNat = ws.length := by omega
      have HOr := Aside0.mk (Kd.R_below HO.out HBr.out)
      have HB4 := Aside0.mk (below_step HB2.out HBr.out)
      rw [hw2] at HOr
      clear hw2
      by_cases hz : psum ws ws.length = 0
      · have hz2 := beq_iff_eq.mpr hz
        go_wp2
        go_ret
        refine ⟨_, rfl, ?_, below_step HB1.out HB4.out⟩
        unfold share
        rw [if_pos hz]
        exact Kd.R_lower HOr.out HB1.out.size
      · have hz2 : (psum ws ws.length == 0) = false := beq_eq_false_iff_ne.mpr hz
        have hpos : 0 < ws.length := by
          rcases Nat.eq_zero_or_pos ws.length with h | h
          · exact absurd (by rw [h]; rfl) hz
          · exact h
        obtain ⟨g, cap, hv, hg1, hg2, _⟩ := Kd.R_form HOr.out (by rw [List.length_replicate]; exact hpos)
        rw [List.length_replicate] at hv
        subst hv
        have HZ := Aside0.mk hz
        clear hz
        go_wp2
        go_loopw [9, 10, 35] (fun s t i wq => ∃ k : Nat, k ≤ ws.length ∧ i = .int .i64 k ∧ s = .int .i64 (psum ws k) ∧ t = .int .i64 ((cut n * psum ws k).fdiv (psum ws ws.length)) ∧
          Aside0 (Kd.R (Kd.int .i64) 3 wq w1.heap.size (fun _ => True) (.slice (some ⟨g, 0, none⟩) ws.length cap) (shared (cut n) ws k ++ List.replicate (ws.length - k) 0)) ∧ Aside0 (Below w1.heap.size w1 wq)) (fun _ _ i _ => ws.length - (intOf i).toNat)
        case atStart => exact ⟨0, Nat.zero_le _, rfl, rfl, by simp only [psum, Int.mul_zero, Int.zero_fdiv], HOr, HB4⟩
        case round =>
          obtain ⟨k, hk, rfl, rfl, rfl, HOq, HBq⟩ := hrel
          obtain ⟨p0, p1, _⟩ := psum_le ws k
          obtain ⟨q0, q1⟩ := wt_le ws k
          have s1 : psum ws k + wt ws k ≤ 16777216000 := (psum_le ws (k + 1)).2.1
          have hall : 0 < psum ws ws.length := by have := HZ.out; omega
          obtain ⟨d0, d1⟩ : -281474976710656000 ≤ (cut n * psum ws k).fdiv (psum ws ws.length) ∧ (cut n * psum ws k).fdiv (psum ws ws.length) ≤ 281474976710656000 := by
            have h1 := fdiv_le (cut n * psum ws k) _ hall
            have h2 := part_le n (psum ws k) (by omega) (by omega)
            omega
          obtain ⟨e0, e1⟩ : -281474976710656000 ≤ (cut n * (psum ws k + wt ws k)).fdiv (psum ws ws.length) ∧ (cut n * (psum ws k + wt ws k)).fdiv (psum ws ws.length) ≤ 281474976710656000 := by
            have h1 := fdiv_le (cut n * (psum ws k + wt ws k)) _ hall
            have h2 := part_le n (psum ws k + wt ws k) (by omega) (by omega)
            omega
          have HGq := Aside0.mk (blk_below HG.out HBq.out)
          have hcellq : wr.cell? ⟨w.heap.size, 0, none⟩ = some (.slice A ws.length c) := by rw [blk_cell HGq.out]; rfl
          have HRq := Aside0.mk (Kd.C_below (Kd.C_below HR.out HB1.out) HBq.out)
          by_cases hlt : k < ws.length
          · go_wp2_with (first
              | (go_at_call 112; (with_reducible refine (fix_Share_1.calls ws A c w.heap.size k (wt ws k) _ HGq.out HRq.out (share1_f ws k hlt)).mono ?_); rintro e w3 ⟨rfl, hb⟩; have HB5 := Aside0.mk hb; clear hb)
              | (go_at_call 113; (with_reducible refine (fix_share.calls (cut n) (psum ws k + wt ws k) (psum ws ws.length) _ _ (share_f n _ _ (by omega) (by omega) HZ.out)).mono ?_); rintro e w4 ⟨rfl, hb⟩; replace hb := hb.below; have HO6 := Aside0.mk (Kd.R_below (Kd.R_below HOq.out HB5.out) hb); have HB6 := Aside0.mk (below_step (below_step HBq.out HB5.out) hb); clear hb; obtain ⟨hs1, hs2⟩ := Kd.R_celln (0 : Int) HO6.out (k : Int) (by omega) (by omega); simp only [Int.toNat_natCast] at hs1 hs2))
            go_roundw
            case rel =>
              refine ⟨k + 1, by omega, by go_num, rfl, rfl, ⟨?_⟩, ⟨?_⟩⟩
              · have h1 := Kd.R_putn HO6.out (k : Int) ((cut n * (psum ws k + wt ws k)).fdiv (psum ws ws.length) - (cut n * psum ws k).fdiv (psum ws ws.length))
                obtain ⟨m, hm⟩ : ∃ m, ws.length - k = m + 1 := ⟨ws.length - k - 1, by omega⟩
                rw [Int.toNat_natCast, hm] at h1
                rw [show ws.length - (k + 1) = m by omega, ← shared_set]
                exact h1
              · exact HB6.out.setCell (by simpa using hg1) _
            case measure => simp [intOf]; omega
          · obtain rfl : k = ws.length := by omega
            go_wp2
            go_ret
            refine ⟨_, rfl, ?_, below_step HB1.out HBq.out⟩
            have h1 := HOq.out
            rw [Nat.sub_self, List.replicate_zero, List.append_nil] at h1
            unfold share
            rw [if_neg HZ.out]
            exact Kd.R_lower h1 HB1.out.size
def fix_Share.f (a0 : Int) (l1 : List Int) : Option (List Int) := if l1.length * 8 ≤ 140737488351232 then some (share a0 l1) else none
theorem fix_Share.calls (a0 : Int) (A1 : Option Addr) (c1 : Nat) (l1 : List Int) (r : List Int) (w : World) (hr1 : Kd.C (Kd.int .i64) w A1 l1.length l1) (hc1 : l1.length ≤ c1) (h : fix_Share.f a0 l1 = some r) :
    Calls Try.prog 80 #[.int .i64 a0, .slice A1 l1.length c1] w fun e w' => ∃ v0_ : Value, e = .returned v0_ ∧ Kd.R (Kd.int .i64) 3 w' w.heap.size (fun _ => True) v0_ r ∧ Below w.heap.size w w' := by
  unfold fix_Share.f at h
  split at h
  · rename_i hl
    obtain rfl := Option.some.inj h
    exact fix_Share.walk a0 A1 c1 l1 w hr1 hc1 hl
  · cases h
end Go.Proofs.Ytaejmgdpnnhpmaa.QFlex
