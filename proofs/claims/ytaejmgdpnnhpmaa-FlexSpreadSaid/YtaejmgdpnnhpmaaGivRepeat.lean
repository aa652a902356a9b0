/- slices.Repeat of a row of one 1, walked by hand. -/
import Derived.Test.YtaejmgdpnnhpmaaQFlexx9
import Derived.Laws.CopyOwn
import Derived.Deep.RegionLaw
namespace Go.Proofs.Ytaejmgdpnnhpmaa.QFlex
open Go.RowKit Go.Proofs.YtaejmgdpnnhpmaaW.PrintWords Go.Proofs.YtaejmgdpnnhpmaaW.PrintLast Go.Proofs.YtaejmgdpnnhpmaaW.PrintMore
attribute [local go_sem] max2_int min2_int max_two min_two max_three min_three max_four min_four
set_option linter.unusedVariables false
set_option linter.unusedSimpArgs false
theorem mul_one_small : ∀ n : Fin 1001, bits_Mul.f 1 (n.val : Int) = some (0, (n.val : Int)) := by decide +kernel
theorem mul_one_a (n : Nat) (h : n ≤ 1000) : bits_Mul.f (IntKind.u64.wrap 1) (IntKind.u64.wrap (n : Int)) = some (0, (n : Int)) := by
  have h1 : IntKind.u64.wrap (1 : Int) = 1 := by decide
  have h2 : IntKind.u64.wrap (n : Int) = (n : Int) := by rw [IntKind.wrap_u64]; omega
  rw [h1, h2]
  exact mul_one_small ⟨n, by omega⟩
def one : Value := .int .i64 1
def nul : Value := .int .i64 0
def half (k n : Nat) (tail : List Value) : List Value := List.replicate k one ++ (List.replicate (n - k) nul ++ tail)
theorem half_length (k n : Nat) (tail : List Value) (h : k ≤ n) : (half k n tail).length = n + tail.length := by
  simp [half]; omega
theorem half_splice (k n d : Nat) (tail : List Value) (h : k + d ≤ n) : splice (half k n tail) k (List.replicate d one) = half (k + d) n tail := by
  unfold splice half
  rw [List.take_append_of_le_length (by simp), List.take_of_length_le (by simp), List.length_replicate, ← List.append_assoc, List.replicate_append_replicate]
  congr 1
  rw [List.drop_append, List.length_replicate, List.drop_eq_nil_of_le (by simp), List.nil_append, List.drop_append, List.drop_replicate, List.length_replicate]
  rw [show n - k - (k + d - k) = n - (k + d) by omega, show k + d - k - (n - k) = 0 by omega, List.drop_zero]
theorem half_spliced {w : World} {g : Nat} (k n d : Nat) (tail : List Value) (h : k + d ≤ n) (hh : Hid (w.heap[g]? = some (.cells (splice (half k n tail) k (List.replicate d one)).toArray 3 (0, 0)))) : w.heap[g]? = some (.cells (half (k + d) n tail).toArray 3 (0, 0)) := by
  have h1 := hh.out
  rw [half_splice k n d tail h] at h1
  exact h1
theorem half_get (k n j : Nat) (tail : List Value) (h : j < k) : (half k n tail)[j]? = some one := by
  unfold half
  rw [List.getElem?_append_left (by simpa using h)]
  simp [h]
theorem half_own {w : World} {base g cap n : Nat} {tail : List Value} (hb : base ≤ g) (hh : w.heap[g]? = some (.cells (half n n tail).toArray 3 (0, 0))) (hl : n + tail.length = cap) (hm : cap ≤ maxLen) :
    Kd.R (Kd.int .i64) 3 w base (fun _ => True) (.slice (some ⟨g, 0, none⟩) n cap) (List.replicate n 1) := by
  refine Kd.R_of_own ?_ (fun _ _ => trivial)
  refine ⟨by simp [encs], .inr ⟨g, cap, _, by simp, hb, hh, ?_, hm, ?_, ?_⟩⟩
  · simp; omega
  · simp [half_length n n tail (Nat.le_refl _)]; omega
  · simp [half, encs, one]
theorem half_of {w : World} {base : Nat} {v : Value} {n : Nat} (hn : 0 < n) (h : Kd.R (Kd.int .i64) 3 w base (fun _ => True) v (List.replicate (n : Int).toNat 0)) :
    ∃ (g cap : Nat) (tail : List Value), v = .slice (some ⟨g, 0, none⟩) n cap ∧ base ≤ g ∧ w.heap[g]? = some (.cells (half 0 n tail).toArray 3 (0, 0)) ∧ n + tail.length = cap ∧ cap ≤ maxLen := by
  rw [Int.toNat_natCast] at h
  have ho := Kd.own_of_R h
  rw [List.length_replicate] at ho
  rcases ho.2 with ⟨_, h0⟩ | ⟨g, cap, cur, hv, hb, hh, hnc, hcm, hcs, htake⟩
  · omega
  · refine ⟨g, cap, cur.toList.drop n, hv, hb, ?_, ?_, hcm⟩
    · rw [hh]
      congr 2
      have h1 : half 0 n (cur.toList.drop n) = cur.toList := by
        unfold half
        have h2 : List.replicate (n - 0) nul = cur.toList.take n := by
          rw [Nat.mul_one] at htake
          rw [htake]
          simp [encs, nul]
        rw [h2, List.replicate_zero, List.nil_append, List.take_append_drop]
      rw [h1]
    · simp; omega
theorem one_at {w : World} {A : Option Addr} (h : Kd.C (Kd.int .i64) w A 1 [1]) : ∃ ad, A = some ad ∧ ∀ j v, [one][j]? = some v → w.cell? (ad.add j) = some v := by
  obtain ⟨ad, e, hc⟩ := (Kd.reads_of_C (d := (0 : Int)) h).2.2 (by omega)
  refine ⟨ad, e, fun j v hv => ?_⟩
  match j, hv with
  | 0, hv => obtain rfl := Option.some.inj hv; exact hc 0 (by omega)
  | j + 1, hv => simp at hv
theorem repeat_zero (A : Option Addr) (c : Nat) (w : World) (hr : Kd.C (Kd.int .i64) w A 1 [1]) (hc : 1 ≤ c) :
    Calls Try.prog 81 #[.slice A 1 c, .int .i64 0] w fun e w' => ∃ v : Value, e = .returned v ∧ Kd.R (Kd.int .i64) 3 w' w.heap.size (fun _ => True) v (List.replicate 0 1) ∧ Below w.heap.size w w' := by
  have HR := Aside0.mk hr
  have HM : Aside0 (bits_Mul.f 1 0 = some (0, 0)) := Aside0.mk (mul_one_small ⟨0, by omega⟩)
  have HB := Aside0.mk (Below.refl w.heap.size w)
  clear hr
  go_enter Try.func81, Try.ntmps81
  go_wp2_with (first
    | (go_at_call 114; (with_reducible refine (bits_Mul.calls 1 0 0 0 _ HM.out).mono ?_); rintro e w1 ⟨rfl, hb⟩; have HB1 := Aside0.mk (below_step HB.out hb.below); clear hb)
    | ((with_reducible refine gate_dst (N := 30) rfl ?_); refine Kd.R_make (Kd.int .i64) w.heap.size 3 rfl (N := 30) rfl 51 _ _ rfl 0 rfl rfl Try.underlying51 (.int .i64 0) 8 info3 rfl (by decide) (by omega) 0 (ok := fun _ => True) (okp := fun _ => True) rfl (fun _ hk => hk) trivial (by omega) (by omega) HB1.out HB1.out.size ?_; intro v1 w2 ho hb hg hat; have HO := Aside0.mk ho; have HB2 := Aside0.mk hb; obtain ⟨A9, c9, hv9⟩ := (Kd.R_slice ho); subst hv9; clear ho hb hg hat)
    | ((with_reducible refine gate_dst (N := 33) rfl ?_); refine wpList_copy_nothing rfl _ _ 51 51 rfl 3 Try.underlying51 (by kernel_rfl) _ _ _ _ _ _ rfl rfl rfl ?_))
  go_loopw [8] (fun n wr => n = .int .i64 0 ∧ wr = w2) (fun _ _ => 0)
  case atStart => exact ⟨rfl, rfl⟩
  case round =>
    obtain ⟨rfl, rfl⟩ := hrel
    go_wp2
    go_ret
    exact ⟨_, rfl, HO.out, HB2.out⟩
set_option maxRecDepth 100000 in
theorem repeat_some (n : Nat) (hn0 : 0 < n) (hn : n ≤ 1000) (A : Option Addr) (c : Nat) (w : World) (hr : Kd.C (Kd.int .i64) w A 1 [1]) (hc : 1 ≤ c) :
    Calls Try.prog 81 #[.slice A 1 c, .int .i64 (n : Int)] w fun e w' => ∃ v : Value, e = .returned v ∧ Kd.R (Kd.int .i64) 3 w' w.heap.size (fun _ => True) v (List.replicate n 1) ∧ Below w.heap.size w w' := by
  have HR := Aside0.mk hr
  have HM : Aside0 (bits_Mul.f 1 (n : Int) = some (0, (n : Int))) := Aside0.mk (mul_one_small ⟨n, by omega⟩)
  have hu : IntKind.u64.wrap (n : Int) = (n : Int) := by rw [IntKind.wrap_u64]; omega
  have hi : IntKind.i64.wrap (n : Int) = (n : Int) := by rw [IntKind.wrap_i64]; omega
  have hlt0 : ¬ (n : Int) < 0 := by omega
  have hbig : ¬ (9223372036854775807 : Int) < (n : Int) := by omega
  have HB := Aside0.mk (Below.refl w.heap.size w)
  clear hr
  go_enter Try.func81, Try.ntmps81
  go_wp2_with (first
    | (go_at_call 114; (with_reducible refine (bits_Mul.calls 1 (n : Int) 0 (n : Int) _ HM.out).mono ?_); rintro e w1 ⟨rfl, hb⟩; have HB1 := Aside0.mk (below_step HB.out hb.below); have HR1 := Aside0.mk (Kd.C_below HR.out hb.below); clear hb)
    | ((with_reducible refine gate_dst (N := 30) rfl ?_); refine Kd.R_make (Kd.int .i64) w.heap.size 3 rfl (N := 30) rfl 51 _ _ rfl (n : Int) rfl rfl Try.underlying51 (.int .i64 0) 8 info3 rfl (by decide) (by omega) 0 (ok := fun _ => True) (okp := fun _ => True) rfl (fun _ hk => hk) trivial (by omega) (by omega) HB1.out HB1.out.size ?_; intro v1 w2 ho hb hg hat; have HB2 := Aside0.mk hb; have HR2 := Aside0.mk (one_at (Kd.C_below HR.out hb)); obtain ⟨g, cap, tail, hv, hgb, hh, hnc, hcm⟩ := half_of hn0 ho; subst hv; have HH := Aside0.mk hh; have HCM := Aside0.mk hcm; clear hcm; clear ho hb hg hat hh)
    | ((with_reducible refine gate_dst (N := 33) rfl ?_); refine wpList_copy_splice rfl _ _ 51 51 rfl 3 Try.underlying51 (by kernel_rfl) _ _ _ _ _ _ rfl rfl g 0 (half 0 n tail) 3 HH.out (List.replicate 1 one) (by show 1 = min 1 n; omega) (fun _ => ⟨rfl, HR2.out⟩) (by rw [half_length _ _ _ (Nat.zero_le _)]; show 0 + 1 ≤ _; omega) (fun v hv => by obtain rfl := List.mem_singleton.mp hv; rfl) w.heap.size w HB2.out hgb ?_; intro w3 hh3 hb3; have HH3 := Aside0.mk (half_spliced 0 n 1 tail (by omega) hh3); have HB3 := Aside0.mk hb3; clear hh3 hb3))
  go_loopw [8] (fun v wr => ∃ k : Nat, 0 < k ∧ k ≤ n ∧ v = .int .i64 (k : Int) ∧ Aside0 (wr.heap[g]? = some (.cells (half k n tail).toArray 3 (0, 0))) ∧ Aside0 (Below w.heap.size w wr)) (fun v _ => n - (intOf v).toNat)
  case atStart => exact ⟨1, by omega, by omega, rfl, HH3, HB3⟩
  case round =>
    obtain ⟨k, hk0, hk, rfl, HHr, HBr⟩ := hrel
    by_cases hlt : k < n
    · obtain ⟨d, hd⟩ : ∃ d, d = min k (n - k) := ⟨_, rfl⟩
      have hd0 : 0 < d := by omega
      have hkd : k + d ≤ n := by omega
      have hd1 : Aside0 (d = min k (n - k)) := Aside0.mk hd
      have s1 : Aside0 ((List.replicate d one).length = Nat.min k (n - k)) := Aside0.mk (by rw [List.length_replicate]; exact hd)
      have s2 : Aside0 (∀ v ∈ List.replicate d one, v.oneCell' = true) := Aside0.mk (fun v hv => by rw [List.eq_of_mem_replicate hv]; rfl)
      have s3 : Aside0 (k + (List.replicate d one).length ≤ (half k n tail).length) := Aside0.mk (by rw [List.length_replicate, half_length _ _ _ hk]; omega)
      have s4 : Aside0 (∀ j v, (List.replicate d one)[j]? = some v → wr.drew.cell? ((⟨g, 0, none⟩ : Addr).add j) = some v) := Aside0.mk (fun j v hv => by
        have hj : j < d := by
          have := (List.getElem?_eq_some_iff.1 hv).1
          rwa [List.length_replicate] at this
        have h1 := half_get k n j tail (by omega)
        have hv2 : v = one := by
          rw [List.getElem?_replicate, if_pos hj] at hv
          exact (Option.some.inj hv).symm
        subst hv2
        have h2 := cell_of_row wr g (0 + j) _ 3 (0, 0) HHr.out
        rw [Addr.add_lit]
        exact h2.trans (by rw [Nat.zero_add]; simpa using h1))
      have hck : ¬ cap = k := by omega
      have hkc : k ≤ cap := by omega
      have hnc2 : n ≤ cap := by omega
      have hk2 : (k : Int) ≤ (n : Int) := by omega
      have hk3 : (k : Int) ≤ (cap : Int) := by omega
      have hwr : IntKind.i64.wrap ((k : Int) + (d : Int)) = (k : Int) + (d : Int) := by rw [IntKind.wrap_i64]; omega
      clear hd
      go_wp2_with fail
      go_region_law (refine step_copy_splice rfl (.tmp 41) (.tmp 44) 51 51 rfl 3 Try.underlying51 (by kernel_rfl) (some ⟨g, k, none⟩) (some ⟨g, 0, none⟩) (n - k) (cap - k) k cap (by simp [Act.eval, Act.put, hck]) (by simp [Act.eval, Act.put]) g k (half k n tail) 3 HHr.out (List.replicate d one) s1.out (fun _ => ⟨rfl, _, rfl, s4.out⟩) s3.out s2.out w.heap.size w (below_drew1 HBr.out) hgb ?_; intro w4 hh4 hb4)
      all_goals (
        go_simp
        go_roundw
        case rel => exact ⟨_, _, _, _, _, _, _, _, _, _, _, _, _, _, ⟨k + d, by omega, hkd, by rfl, ⟨half_spliced k n d tail hkd hh4⟩, ⟨hb4⟩⟩, rfl⟩
        case measure => simp [intOf]; omega)
    · obtain rfl : k = n := by omega
      go_wp2
      go_ret
      exact ⟨_, rfl, half_own hgb HHr.out hnc HCM.out, HBr.out⟩
def slices_Repeat_int_int.f (l0 : List Int) (a1 : Int) : Option (List Int) := if l0 = [1] ∧ 0 ≤ a1 ∧ a1 ≤ 1000 then some (List.replicate a1.toNat 1) else none
theorem slices_Repeat_int_int.calls (A0 : Option Addr) (c0 : Nat) (l0 : List Int) (a1 : Int) (r : List Int) (w : World) (hr0 : Kd.C (Kd.int .i64) w A0 l0.length l0) (hc0 : l0.length ≤ c0) (h : slices_Repeat_int_int.f l0 a1 = some r) :
    Calls Try.prog 81 #[.slice A0 l0.length c0, .int .i64 a1] w fun e w' => ∃ v0_ : Value, e = .returned v0_ ∧ Kd.R (Kd.int .i64) 3 w' w.heap.size (fun _ => True) v0_ r ∧ Below w.heap.size w w' := by
  unfold slices_Repeat_int_int.f at h
  split at h
  · rename_i hl
    obtain ⟨rfl, h0, h1⟩ := hl
    obtain rfl := Option.some.inj h
    obtain ⟨n, rfl⟩ := Int.eq_ofNat_of_zero_le h0
    rw [Int.toNat_natCast]
    by_cases hz : n = 0
    · subst hz
      exact repeat_zero A0 c0 w hr0 hc0
    · exact repeat_some n (by omega) (by omega) A0 c0 w hr0 hc0
  · cases h
end Go.Proofs.Ytaejmgdpnnhpmaa.QFlex
