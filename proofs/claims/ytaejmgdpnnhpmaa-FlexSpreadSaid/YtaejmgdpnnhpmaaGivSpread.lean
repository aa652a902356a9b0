/- flex.Spread and its closure, walked by hand. -/
import Derived.Test.YtaejmgdpnnhpmaaFlexTurn
import Derived.Test.YtaejmgdpnnhpmaaGivRepeat
import Derived.Laws.CopyRow
import Derived.Laws.IdiomCopy
namespace Go.Proofs.Ytaejmgdpnnhpmaa.QFlex
open Go.RowKit Go.Proofs.YtaejmgdpnnhpmaaW.PrintWords Go.Proofs.YtaejmgdpnnhpmaaW.PrintLast Go.Proofs.YtaejmgdpnnhpmaaW.PrintMore
attribute [local go_sem] max2_int min2_int max_two min_two max_three min_three max_four min_four
set_option linter.unusedVariables false
set_option linter.unusedSimpArgs false
def ins (l : List Int) : List Value := l.map fun x => .int .i64 x
theorem raw_of {w : World} {base : Nat} {ok : Nat → Prop} {v : Value} {l : List Int} (h : Kd.R (Kd.int .i64) 3 w base ok v l) (hp : 0 < l.length) :
    ∃ (g cap : Nat) (tail : List Value), v = .slice (some ⟨g, 0, none⟩) l.length cap ∧ base ≤ g ∧ w.heap[g]? = some (.cells (ins l ++ tail).toArray 3 (0, 0)) ∧ l.length + tail.length = cap ∧ cap ≤ maxLen := by
  have ho := Kd.own_of_R h
  rcases ho.2 with ⟨_, h0⟩ | ⟨g, cap, cur, hv, hb, hh, hnc, hcm, hcs, htake⟩
  · omega
  · refine ⟨g, cap, cur.toList.drop l.length, hv, hb, ?_, by have : cur.size = cap * 1 := hcs; simp; omega, hcm⟩
    rw [hh]
    congr 2
    have h4 : cur.toList.take (l.length * 1) = ins l := htake
    rw [Nat.mul_one] at h4
    rw [← h4, List.take_append_drop]
theorem raw_own {w : World} {base g cap : Nat} {l : List Int} {tail : List Value} (hb : base ≤ g) (hh : w.heap[g]? = some (.cells (ins l ++ tail).toArray 3 (0, 0))) (hl : l.length + tail.length = cap) (hm : cap ≤ maxLen) :
    Kd.R (Kd.int .i64) 3 w base (fun _ => True) (.slice (some ⟨g, 0, none⟩) l.length cap) l := by
  refine Kd.R_of_own ?_ (fun _ _ => trivial)
  refine ⟨by simp [encs], .inr ⟨g, cap, _, rfl, hb, hh, by omega, hm, ?_, ?_⟩⟩
  · simp [ins]; omega
  · rw [Nat.mul_one]
    show (ins l ++ tail).take l.length = _
    rw [List.take_left' (by simp [ins])]
    rfl
theorem one_row {w : World} {g : Nat} (h : w.heap[g]? = some (.cells #[.int .i64 1] 3 (0, 0))) : Kd.C (Kd.int .i64) w (some ⟨g, 0, none⟩) 1 [1] :=
  (Kd.R_reads' (raw_own (base := 0) (l := [1]) (tail := []) (cap := 1) (Nat.zero_le _) h rfl (by decide))).2.2
def ones (c : Int) (m : Nat) : List Int := share c (List.replicate m 1)
theorem ones_length (c : Int) (m : Nat) : (ones c m).length = m := by
  unfold ones share
  split
  · simp
  · rw [shared_length, List.length_replicate]
/-- What Spread tells. -/
def addUp (q : List Int) (m : Nat) : Nat → List Int
  | 0 => List.replicate m 0
  | i + 1 => (addUp q m i).set ((i + 1) / 2) (wrap64 (rd (addUp q m i) (((i + 1) / 2 : Nat) : Int) + rd q i))
theorem addUp_length (q : List Int) (m i : Nat) : (addUp q m i).length = m := by
  induction i with
  | zero => simp [addUp]
  | succ i ih => unfold addUp; simp [ih]
def modeOf (mode c : Int) : Int := if c ≤ 0 then (if mode = 4 then 0 else if mode = 5 then 2 else mode) else mode
def manyOf (n : Int) : Nat := if n < 0 then 0 else if n > 500 then 0 else n.toNat
def spreadOf (mode c : Int) (m : Nat) : List Int :=
  if m = 0 then [] else if mode = 1 then (List.replicate m 0).set 0 c else if mode = 2 then (List.replicate m 0).set 0 (part c 1 2) else if mode = 4 then 0 :: ones c (m - 1) else if mode = 5 then addUp (ones c (2 * m)) m (2 * m - 1) else List.replicate m 0
def flex_Spread.f (a0 a1 a2 : Int) : Option (List Int) := some (spreadOf (modeOf a0 (cut a1)) (cut a1) (manyOf a2))

theorem other_le {mode c : Int} {m : Nat} (hc : c ≤ 0) (h : mode ≠ 1 ∧ mode ≠ 2 ∧ mode ≠ 4 ∧ mode ≠ 5) (hm : 0 < m) : spreadOf (modeOf mode c) c m = List.replicate m 0 := by
  obtain ⟨h1, h2, h4, h5⟩ := h
  have e : modeOf mode c = mode := by unfold modeOf; rw [if_pos hc, if_neg h4, if_neg h5]
  unfold spreadOf
  rw [e, if_neg (by omega), if_neg h1, if_neg h2, if_neg h4, if_neg h5]
theorem other_gt {mode c : Int} {m : Nat} (hc : ¬ c ≤ 0) (h : mode ≠ 1 ∧ mode ≠ 2 ∧ mode ≠ 4 ∧ mode ≠ 5) (hm : 0 < m) : spreadOf (modeOf mode c) c m = List.replicate m 0 := by
  obtain ⟨h1, h2, h4, h5⟩ := h
  have e : modeOf mode c = mode := by unfold modeOf; rw [if_neg hc]
  unfold spreadOf
  rw [e, if_neg (by omega), if_neg h1, if_neg h2, if_neg h4, if_neg h5]
theorem copy_run {P : Program} {oi : Oper} {a : Act} {w : World} {v1 v2 : Value} (d s : Operand) (dT sT : TypeId) (ho : oi.op = .call { callee := .builtin .copy, args := #[d, s], argTypes := #[dT, sT] }) (hd : a.eval d = v1) (hs : a.eval s = v2) (k : Int) (u : World)
    (h : (Builtin.copy_ #[dT, sT] oi.type #[v1, v2]).run P w = .ok (goInt k) u) : (execOp a.eval oi).run P w = .ok (.value (goInt k)) u := by
  simp [execOp, ho, resolve, invoke, builtin, hd, hs, h, Result.andThen]
theorem ins_length (l : List Int) : (ins l).length = l.length := by simp [ins]
theorem ins_one (l : List Int) : ∀ v ∈ ins l, v.oneCell' = true := by
  intro v hv
  simp only [ins, List.mem_map] at hv
  obtain ⟨x, _, rfl⟩ := hv
  rfl
theorem ins_at {w : World} {g : Nat} {l : List Int} {tail : List Value} (h : w.heap[g]? = some (.cells (ins l ++ tail).toArray 3 (0, 0))) : ∀ (j : Nat) (v : Value), (ins l)[j]? = some v → w.cell? ((⟨g, 0, none⟩ : Addr).add j) = some v := by
  intro j v hv
  have hj := (List.getElem?_eq_some_iff.1 hv).1
  have e : (⟨g, 0, none⟩ : Addr).add j = ⟨g, j, none⟩ := by
    unfold Addr.add
    split
    · subst_vars; rfl
    · simp
  rw [e, blk_cell h]
  simp only [List.getElem?_toArray]
  rw [List.getElem?_append_left hj]
  exact hv
theorem put_tail {m : Nat} {l : List Int} {tail : List Value} (hl : l.length = m - 1) (hm : 0 < m) :
    (List.take 1 (ins (List.replicate m 0) ++ tail).toArray.toList ++ ins l ++ List.drop (1 + (ins l).length) (ins (List.replicate m 0) ++ tail).toArray.toList).toArray = (ins (0 :: l) ++ tail).toArray := by
  obtain ⟨k, rfl⟩ : ∃ k, m = k + 1 := ⟨m - 1, by omega⟩
  have hk : l.length = k := hl
  subst hk
  congr 1
  simp only [ins_length]
  rw [Nat.add_comm 1]
  simp [ins, List.replicate_succ]
theorem spo (mode c : Int) (m : Nat) (hm : 0 < m) (h : modeOf mode c = 0) : spreadOf (modeOf mode c) c m = List.replicate m 0 := by
  unfold spreadOf
  rw [h, if_neg (by omega)]
  rfl
theorem sp1 (mode c : Int) (m : Nat) (hm : 0 < m) (h : modeOf mode c = 1) : spreadOf (modeOf mode c) c m = (List.replicate m 0).set 0 c := by
  unfold spreadOf
  rw [h, if_neg (by omega), if_pos rfl]
theorem sp2 (mode c : Int) (m : Nat) (hm : 0 < m) (h : modeOf mode c = 2) : spreadOf (modeOf mode c) c m = (List.replicate m 0).set 0 (part c 1 2) := by
  unfold spreadOf
  rw [h, if_neg (by omega)]
  rfl
theorem sp4 (mode c : Int) (m : Nat) (hm : 0 < m) (h : modeOf mode c = 4) : spreadOf (modeOf mode c) c m = 0 :: ones c (m - 1) := by
  unfold spreadOf
  rw [h, if_neg (by omega)]
  rfl
theorem sp5 (mode c : Int) (m : Nat) (hm : 0 < m) (h : modeOf mode c = 5) : spreadOf (modeOf mode c) c m = addUp (ones c (2 * m)) m (2 * m - 1) := by
  unfold spreadOf
  rw [h, if_neg (by omega)]
  rfl
theorem rep_calls (g m : Nat) (w : World) (h : w.heap[g]? = some (.cells #[.int .i64 1] 3 (0, 0))) (hm : m ≤ 1000) :
    Calls Try.prog 81 #[.slice (some ⟨g, 0, none⟩) 1 1, .int .i64 (m : Int)] w fun e w' => ∃ v : Value, e = .returned v ∧ Kd.R (Kd.int .i64) 3 w' w.heap.size (fun _ => True) v (List.replicate m 1) ∧ Below w.heap.size w w' :=
  slices_Repeat_int_int.calls (some ⟨g, 0, none⟩) 1 [1] (m : Int) (List.replicate m 1) w (one_row h) (Nat.le_refl 1) (by unfold slices_Repeat_int_int.f; rw [if_pos ⟨rfl, by omega, by omega⟩, Int.toNat_natCast])
theorem share_calls (c : Int) (A : Option Addr) (m k base : Nat) (w : World) {ok : Nat → Prop} (h : Kd.R (Kd.int .i64) 3 w base ok (.slice A m k) (List.replicate m 1)) (hm : m ≤ 1000) :
    Calls Try.prog 80 #[.int .i64 c, .slice A m k] w fun e w' => ∃ v : Value, e = .returned v ∧ Kd.R (Kd.int .i64) 3 w' w.heap.size (fun _ => True) v (ones c m) ∧ Below w.heap.size w w' := by
  have hr := Kd.R_reads' h
  have hw := fix_Share.walk c A k (List.replicate m 1) w hr.2.2 (by simpa using hr.2.1) (by simp; omega)
  rw [List.length_replicate] at hw
  exact hw
set_option maxHeartbeats 8000000 in
set_option maxRecDepth 100000 in
theorem ones_calls (gb : Nat) (c : Int) (m : Nat) (w : World) (hb : w.heap[gb]? = some (.cells #[.int .i64 c] 3 (0, 0))) (hm : m ≤ 1000) :
    Calls Try.prog 79 #[.int .i64 (m : Int), .pointer (some ⟨gb, 0, none⟩)] w fun e w' => ∃ v : Value, e = .returned v ∧ Kd.R (Kd.int .i64) 3 w' w.heap.size (fun _ => True) v (ones c m) ∧ Below w.heap.size w w' := by
  have KB := Aside0.mk hb
  have HM := Aside0.mk hm
  have HB := Aside0.mk (Below.refl w.heap.size w)
  clear hb hm
  go_enter Try.func79, Try.ntmps79
  go_wp2_with fail
  refine start_ (n := 6) (S := fun w' => w'.cell? ⟨gb, 0, none⟩ = some (.int .i64 c)) (ds := []) #[false, false, false, false, false, false] (by kernel_rfl) rfl rfl ((blk_cell (show w.drew.heap[gb]? = _ from KB.out) 0).trans rfl) (fun hHeld => ?_)
  refine pure_ (i := 2) (N := some 6) (v := ?_) (a' := ?_) #[false, false, true, false, false, false] rfl rfl (by kernel_rfl) (fun _ _ _ h => h) (Or.inl ⟨by rfl, ?_⟩) ?_ ?_
  rotate_left
  · intro w'
    go_simp
    with_reducible rfl
  rotate_left
  · simp only [Act.put, List.setIfInBounds_toArray, List.set_cons_zero, List.set_cons_succ, i64_w, i32_w]
    rfl
  refine take_ (i := 0) (N := some 4) (v := ?_) (a' := ?_) #[true, false, true, false, false, false] rfl rfl (by kernel_rfl) (fun _ _ _ h => h) (Or.inl ⟨by rfl, ?_⟩) hHeld ?_ ?_
  rotate_left
  · intro w' s0
    go_simp
    with_reducible rfl
  rotate_left
  · simp only [Act.put, List.setIfInBounds_toArray, List.set_cons_zero, List.set_cons_succ, i64_w, i32_w]
    rfl
  refine one_ (i := 1) (N := some 5) #[true, true, true, false, false, false] rfl rfl (by kernel_rfl) (by decide) (fun K hK => ?_)
  refine value_ (w1 := ?_) (v := ?_) (by rfl) rfl ?_ ?_
  rotate_left 2
  · go_simp
    constructor
    · rfl
    · rfl
  have KO : Aside0 ((w.alloc (.cells #[.int .i64 1] 3 (0, 0))).drew.heap[w.heap.size]? = some (.cells #[.int .i64 1] 3 (0, 0))) := ⟨blk_new w _⟩
  have BO : Aside0 (Below w.heap.size w (w.alloc (.cells #[.int .i64 1] 3 (0, 0))).drew) := ⟨below_drew1b (below_alloc (Below.refl w.heap.size w) _)⟩
  have KB1 := Aside0.mk (blk_below KB.out BO.out)
  refine hK.out _ _ ((blk_cell KB1.out 0).trans rfl) (fun hHeld => ?_)
  clear hK K
  refine norm_ (a' := ?_) ?_ ?_
  rotate_left
  · show Act.put _ (some 5) _ = _
    simp only [Act.put, List.setIfInBounds_toArray, List.set_cons_zero, List.set_cons_succ, i64_w, i32_w]
    rfl
  refine one_ (i := 3) (N := some 7) #[true, true, true, true, false, false] rfl rfl (by kernel_rfl) (by decide) (fun K hK => ?_)
  refine goes_ Try.func81 (by kernel_rfl) rfl #[.slice (some ⟨w.heap.size, 0, none⟩) 1 1, .int .i64 (m : Int)] (by rfl) rfl rfl (by simp only [List.map_toArray, List.map_cons, List.map_nil]; rfl) ?_
  with_reducible refine (rep_calls _ m _ KO.out HM.out).mono ?_
  rintro e w3 ⟨v3, rfl, hv, hb⟩
  refine ⟨_, rfl, ?_⟩
  have KV := Aside0.mk hv
  have BO3 := Aside0.mk (below_step BO.out hb)
  have KB3 := Aside0.mk (blk_below KB1.out hb)
  clear hv hb
  obtain ⟨A3, k3, hv3⟩ := Kd.R_slice KV.out
  rw [List.length_replicate] at hv3
  subst hv3
  refine hK.out _ _ ((blk_cell KB3.out 0).trans rfl) (fun hHeld => ?_)
  clear hK K
  refine norm_ (a' := ?_) ?_ ?_
  rotate_left
  · show Act.put _ (some 7) _ = _
    simp only [Act.put, List.setIfInBounds_toArray, List.set_cons_zero, List.set_cons_succ, i64_w, i32_w]
    rfl
  refine one_ (i := 4) (N := some 8) #[true, true, true, true, true, false] rfl rfl (by kernel_rfl) (by decide) (fun K hK => ?_)
  refine goes_ Try.func80 (by kernel_rfl) rfl #[.int .i64 c, .slice A3 m k3] (by rfl) rfl rfl (by simp only [List.map_toArray, List.map_cons, List.map_nil]; rfl) ?_
  with_reducible refine (share_calls c A3 m k3 _ _ KV.out HM.out).mono ?_
  rintro e w4 ⟨v4, rfl, hv, hb⟩
  refine ⟨_, rfl, ?_⟩
  have KV4 := Aside0.mk hv
  have BO4 := Aside0.mk (below_step BO3.out hb)
  have S3 := Aside0.mk BO3.out.size
  have KB4 := Aside0.mk (blk_below KB3.out hb)
  clear hv hb
  refine hK.out _ _ ((blk_cell KB4.out 0).trans rfl) (fun hHeld => ?_)
  clear hK K
  refine norm_ (a' := ?_) ?_ ?_
  rotate_left
  · show Act.put _ (some 8) _ = _
    simp only [Act.put, List.setIfInBounds_toArray, List.set_cons_zero, List.set_cons_succ, i64_w, i32_w]
    rfl
  refine pure_ (i := 5) (N := some 3) (v := ?_) (a' := ?_) #[true, true, true, true, true, true] rfl rfl (by kernel_rfl) (fun _ _ _ h => h) (Or.inl ⟨by rfl, ?_⟩) ?_ ?_
  rotate_left
  · intro w'
    go_simp
    with_reducible rfl
  rotate_left
  · simp only [Act.put, List.setIfInBounds_toArray, List.set_cons_zero, List.set_cons_succ, i64_w, i32_w]
    rfl
  refine done_ (by kernel_rfl) ?_
  go_wp2
  go_ret
  exact ⟨_, rfl, Kd.R_lower KV4.out S3.out, BO4.out⟩
set_option maxHeartbeats 16000000 in
set_option maxRecDepth 100000 in
theorem spread_walk (mode free n : Int) (w : World) : Calls Try.prog 32 #[.int .i64 mode, .int .i64 free, .int .i64 n] w fun e w' => ∃ v : Value, e = .returned v ∧ Kd.R (Kd.int .i64) 3 w' w.heap.size (fun _ => True) v (spreadOf (modeOf mode (cut free)) (cut free) (manyOf n)) ∧ Below w.heap.size w w' := by
  have HB := Aside0.mk (Below.refl w.heap.size w)
  obtain ⟨c, hc⟩ : ∃ c, cut free = c := ⟨_, rfl⟩
  have HCF : Aside0 (fix_Cut.f free = some c) := ⟨by rw [← hc]; exact cut_a free⟩
  rw [hc]
  clear hc
  by_cases hn : n < 0
  · have e1 : decide (n < 0) = true := decide_eq_true hn
    clear hn
    go_enter Try.func32, Try.ntmps32
    go_upto_region 5 with (first | ((with_reducible refine gate_dst (N := 4) rfl ?_); refine box_event rfl (N := 4) rfl (cs := #[.int .i64 free]) (t := 3) (by first | (go_simp; done) | (go_simp; rfl)) ?_; intro gb hg_ w1 hbx hb; have KB1 := Aside0.mk hbx; have HB1 := Aside0.mk (below_step HB.out hb); have HGB := Aside0.mk (show w.heap.size ≤ gb by omega); clear hg_ hbx hb) | ((with_reducible refine gate_dst (N := 18) rfl ?_); refine Kd.R_make (Kd.int .i64) _ 3 rfl (N := 18) rfl 51 _ _ rfl (0 : Int) rfl rfl Try.underlying51 (.int .i64 0) 8 info3 rfl (by decide) (by omega) 0 (ok := fun _ => True) (okp := fun _ => True) rfl (fun _ hk => hk) trivial (by omega) (by omega) (Below.refl _ _) (Nat.le_refl _) ?_; intro vo w2 ho hb hg_ hat; have KO2 : Aside0 ((Kd.int .i64).R 3 w2 w1.heap.size (fun _ => True) vo (List.replicate 0 0)) := ⟨ho⟩; have KB2 := Aside0.mk (blk_below KB1.out hb); have HB2 := Aside0.mk (below_step HB1.out hb); have S1 := Aside0.mk HB1.out.size; have LB := Aside0.mk (blk_lt KB1.out); have hcb : w2.cell? ⟨gb, 0, none⟩ = some (.int .i64 free) := (blk_cell KB2.out 0).trans rfl; clear ho hb hg_ hat) | (go_at_call 51; (with_reducible refine (fix_Cut.calls free c _ HCF.out).mono ?_); rintro e w3 ⟨rfl, hb⟩; have KB3 := Aside0.mk (blk_below KB2.out hb); have KO3 := Aside0.mk (Kd.R_below KO2.out hb); have HB3 := Aside0.mk (below_step HB2.out hb); have hcb3 : w3.cell? ⟨gb, 0, none⟩ = some (.int .i64 free) := (blk_cell KB3.out 0).trans rfl; have fcb3 := blk_frozen KB3.out 0; clear hb))
    have KB4 : Aside0 ((w3.setCell ⟨gb, 0, none⟩ (.int .i64 c)).heap[gb]? = some (.cells #[.int .i64 c] 3 (0, 0))) := ⟨blk_put KB3.out 0 (.int .i64 c) rfl⟩
    have KO4 : Aside0 ((Kd.int .i64).R 3 (w3.setCell ⟨gb, 0, none⟩ (.int .i64 c)) w.heap.size (fun q => q ≠ gb) vo (List.replicate 0 0)) := ⟨Kd.R_far (p := ⟨gb, 0, none⟩) (Kd.R_lower (Kd.R_mono (Kd.R_bound KO3.out) (ok' := fun q => q ≠ gb) (fun q hq => by have := hq.2.1; have := LB.out; omega)) S1.out) (fun q hq => hq) (.int .i64 c)⟩
    have HB4 : Aside0 (Below w.heap.size w (w3.setCell ⟨gb, 0, none⟩ (.int .i64 c))) := ⟨HB3.out.setCell HGB.out _⟩
    clear hcb hcb3 fcb3 KB1 KB2 KB3 KO2 KO3 HB1 HB2 HB3
    generalize w3.setCell ⟨gb, 0, none⟩ (.int .i64 c) = w4 at KB4 KO4 HB4 ⊢
    have hcb : w4.cell? ⟨gb, 0, none⟩ = some (.int .i64 c) := (blk_cell KB4.out 0).trans rfl
    have hmany : manyOf n = 0 := by unfold manyOf; rw [if_pos (of_decide_eq_true e1)]
    have HMY := Aside0.mk hmany
    clear hmany
    by_cases hcz : c ≤ 0
    · have ec : decide (c ≤ 0) = true := decide_eq_true hcz
      have HCZ := Aside0.mk hcz
      clear hcz
      by_cases m1 : mode = 1
      · subst m1
        go_wp2
        go_ret
        refine ⟨_, rfl, ?_, HB4.out⟩
        first | rw [HMY.out] | skip
        exact Kd.R_mono KO4.out (fun _ _ => trivial)
      · have b1 : (mode == 1) = false := beq_eq_false_iff_ne.mpr m1
        by_cases m2 : mode = 2
        · subst m2
          clear m1 b1
          go_wp2
          go_ret
          refine ⟨_, rfl, ?_, HB4.out⟩
          first | rw [HMY.out] | skip
          exact Kd.R_mono KO4.out (fun _ _ => trivial)
        · have b2 : (mode == 2) = false := beq_eq_false_iff_ne.mpr m2
          by_cases m4 : mode = 4
          · subst m4
            clear m1 b1
            clear m2 b2
            go_wp2
            go_ret
            refine ⟨_, rfl, ?_, HB4.out⟩
            first | rw [HMY.out] | skip
            exact Kd.R_mono KO4.out (fun _ _ => trivial)
          · have b4 : (mode == 4) = false := beq_eq_false_iff_ne.mpr m4
            by_cases m5 : mode = 5
            · subst m5
              clear m1 b1
              clear m2 b2
              clear m4 b4
              go_wp2
              go_ret
              refine ⟨_, rfl, ?_, HB4.out⟩
              first | rw [HMY.out] | skip
              exact Kd.R_mono KO4.out (fun _ _ => trivial)
            · have b5 : (mode == 5) = false := beq_eq_false_iff_ne.mpr m5
              have HMO := Aside0.mk (show mode ≠ 1 ∧ mode ≠ 2 ∧ mode ≠ 4 ∧ mode ≠ 5 from ⟨m1, m2, m4, m5⟩)
              clear m1 m2 m4 m5
              go_wp2
              go_ret
              refine ⟨_, rfl, ?_, HB4.out⟩
              first | rw [HMY.out] | skip
              exact Kd.R_mono KO4.out (fun _ _ => trivial)
    · have ec : decide (c ≤ 0) = false := decide_eq_false hcz
      have HCZ := Aside0.mk hcz
      clear hcz
      by_cases m1 : mode = 1
      · subst m1
        go_wp2
        go_ret
        refine ⟨_, rfl, ?_, HB4.out⟩
        first | rw [HMY.out] | skip
        exact Kd.R_mono KO4.out (fun _ _ => trivial)
      · have b1 : (mode == 1) = false := beq_eq_false_iff_ne.mpr m1
        by_cases m2 : mode = 2
        · subst m2
          clear m1 b1
          go_wp2
          go_ret
          refine ⟨_, rfl, ?_, HB4.out⟩
          first | rw [HMY.out] | skip
          exact Kd.R_mono KO4.out (fun _ _ => trivial)
        · have b2 : (mode == 2) = false := beq_eq_false_iff_ne.mpr m2
          by_cases m4 : mode = 4
          · subst m4
            clear m1 b1
            clear m2 b2
            go_wp2
            go_ret
            refine ⟨_, rfl, ?_, HB4.out⟩
            first | rw [HMY.out] | skip
            exact Kd.R_mono KO4.out (fun _ _ => trivial)
          · have b4 : (mode == 4) = false := beq_eq_false_iff_ne.mpr m4
            by_cases m5 : mode = 5
            · subst m5
              clear m1 b1
              clear m2 b2
              clear m4 b4
              go_wp2
              go_ret
              refine ⟨_, rfl, ?_, HB4.out⟩
              first | rw [HMY.out] | skip
              exact Kd.R_mono KO4.out (fun _ _ => trivial)
            · have b5 : (mode == 5) = false := beq_eq_false_iff_ne.mpr m5
              have HMO := Aside0.mk (show mode ≠ 1 ∧ mode ≠ 2 ∧ mode ≠ 4 ∧ mode ≠ 5 from ⟨m1, m2, m4, m5⟩)
              clear m1 m2 m4 m5
              go_wp2
              go_ret
              refine ⟨_, rfl, ?_, HB4.out⟩
              first | rw [HMY.out] | skip
              exact Kd.R_mono KO4.out (fun _ _ => trivial)
  · have e1 : decide (n < 0) = false := decide_eq_false hn
    by_cases hn5 : n > 500
    · have e2 : decide (500 < n) = true := decide_eq_true hn5
      clear hn hn5
      go_enter Try.func32, Try.ntmps32
      go_upto_region 5 with (first | ((with_reducible refine gate_dst (N := 4) rfl ?_); refine box_event rfl (N := 4) rfl (cs := #[.int .i64 free]) (t := 3) (by first | (go_simp; done) | (go_simp; rfl)) ?_; intro gb hg_ w1 hbx hb; have KB1 := Aside0.mk hbx; have HB1 := Aside0.mk (below_step HB.out hb); have HGB := Aside0.mk (show w.heap.size ≤ gb by omega); clear hg_ hbx hb) | ((with_reducible refine gate_dst (N := 18) rfl ?_); refine Kd.R_make (Kd.int .i64) _ 3 rfl (N := 18) rfl 51 _ _ rfl (0 : Int) rfl rfl Try.underlying51 (.int .i64 0) 8 info3 rfl (by decide) (by omega) 0 (ok := fun _ => True) (okp := fun _ => True) rfl (fun _ hk => hk) trivial (by omega) (by omega) (Below.refl _ _) (Nat.le_refl _) ?_; intro vo w2 ho hb hg_ hat; have KO2 : Aside0 ((Kd.int .i64).R 3 w2 w1.heap.size (fun _ => True) vo (List.replicate 0 0)) := ⟨ho⟩; have KB2 := Aside0.mk (blk_below KB1.out hb); have HB2 := Aside0.mk (below_step HB1.out hb); have S1 := Aside0.mk HB1.out.size; have LB := Aside0.mk (blk_lt KB1.out); have hcb : w2.cell? ⟨gb, 0, none⟩ = some (.int .i64 free) := (blk_cell KB2.out 0).trans rfl; clear ho hb hg_ hat) | (go_at_call 51; (with_reducible refine (fix_Cut.calls free c _ HCF.out).mono ?_); rintro e w3 ⟨rfl, hb⟩; have KB3 := Aside0.mk (blk_below KB2.out hb); have KO3 := Aside0.mk (Kd.R_below KO2.out hb); have HB3 := Aside0.mk (below_step HB2.out hb); have hcb3 : w3.cell? ⟨gb, 0, none⟩ = some (.int .i64 free) := (blk_cell KB3.out 0).trans rfl; have fcb3 := blk_frozen KB3.out 0; clear hb))
      have KB4 : Aside0 ((w3.setCell ⟨gb, 0, none⟩ (.int .i64 c)).heap[gb]? = some (.cells #[.int .i64 c] 3 (0, 0))) := ⟨blk_put KB3.out 0 (.int .i64 c) rfl⟩
      have KO4 : Aside0 ((Kd.int .i64).R 3 (w3.setCell ⟨gb, 0, none⟩ (.int .i64 c)) w.heap.size (fun q => q ≠ gb) vo (List.replicate 0 0)) := ⟨Kd.R_far (p := ⟨gb, 0, none⟩) (Kd.R_lower (Kd.R_mono (Kd.R_bound KO3.out) (ok' := fun q => q ≠ gb) (fun q hq => by have := hq.2.1; have := LB.out; omega)) S1.out) (fun q hq => hq) (.int .i64 c)⟩
      have HB4 : Aside0 (Below w.heap.size w (w3.setCell ⟨gb, 0, none⟩ (.int .i64 c))) := ⟨HB3.out.setCell HGB.out _⟩
      clear hcb hcb3 fcb3 KB1 KB2 KB3 KO2 KO3 HB1 HB2 HB3
      generalize w3.setCell ⟨gb, 0, none⟩ (.int .i64 c) = w4 at KB4 KO4 HB4 ⊢
      have hcb : w4.cell? ⟨gb, 0, none⟩ = some (.int .i64 c) := (blk_cell KB4.out 0).trans rfl
      have hmany : manyOf n = 0 := by unfold manyOf; rw [if_neg (of_decide_eq_false e1), if_pos (of_decide_eq_true e2)]
      have HMY := Aside0.mk hmany
      clear hmany
      by_cases hcz : c ≤ 0
      · have ec : decide (c ≤ 0) = true := decide_eq_true hcz
        have HCZ := Aside0.mk hcz
        clear hcz
        by_cases m1 : mode = 1
        · subst m1
          go_wp2
          go_ret
          refine ⟨_, rfl, ?_, HB4.out⟩
          first | rw [HMY.out] | skip
          exact Kd.R_mono KO4.out (fun _ _ => trivial)
        · have b1 : (mode == 1) = false := beq_eq_false_iff_ne.mpr m1
          by_cases m2 : mode = 2
          · subst m2
            clear m1 b1
            go_wp2
            go_ret
            refine ⟨_, rfl, ?_, HB4.out⟩
            first | rw [HMY.out] | skip
            exact Kd.R_mono KO4.out (fun _ _ => trivial)
          · have b2 : (mode == 2) = false := beq_eq_false_iff_ne.mpr m2
            by_cases m4 : mode = 4
            · subst m4
              clear m1 b1
              clear m2 b2
              go_wp2
              go_ret
              refine ⟨_, rfl, ?_, HB4.out⟩
              first | rw [HMY.out] | skip
              exact Kd.R_mono KO4.out (fun _ _ => trivial)
            · have b4 : (mode == 4) = false := beq_eq_false_iff_ne.mpr m4
              by_cases m5 : mode = 5
              · subst m5
                clear m1 b1
                clear m2 b2
                clear m4 b4
                go_wp2
                go_ret
                refine ⟨_, rfl, ?_, HB4.out⟩
                first | rw [HMY.out] | skip
                exact Kd.R_mono KO4.out (fun _ _ => trivial)
              · have b5 : (mode == 5) = false := beq_eq_false_iff_ne.mpr m5
                have HMO := Aside0.mk (show mode ≠ 1 ∧ mode ≠ 2 ∧ mode ≠ 4 ∧ mode ≠ 5 from ⟨m1, m2, m4, m5⟩)
                clear m1 m2 m4 m5
                go_wp2
                go_ret
                refine ⟨_, rfl, ?_, HB4.out⟩
                first | rw [HMY.out] | skip
                exact Kd.R_mono KO4.out (fun _ _ => trivial)
      · have ec : decide (c ≤ 0) = false := decide_eq_false hcz
        have HCZ := Aside0.mk hcz
        clear hcz
        by_cases m1 : mode = 1
        · subst m1
          go_wp2
          go_ret
          refine ⟨_, rfl, ?_, HB4.out⟩
          first | rw [HMY.out] | skip
          exact Kd.R_mono KO4.out (fun _ _ => trivial)
        · have b1 : (mode == 1) = false := beq_eq_false_iff_ne.mpr m1
          by_cases m2 : mode = 2
          · subst m2
            clear m1 b1
            go_wp2
            go_ret
            refine ⟨_, rfl, ?_, HB4.out⟩
            first | rw [HMY.out] | skip
            exact Kd.R_mono KO4.out (fun _ _ => trivial)
          · have b2 : (mode == 2) = false := beq_eq_false_iff_ne.mpr m2
            by_cases m4 : mode = 4
            · subst m4
              clear m1 b1
              clear m2 b2
              go_wp2
              go_ret
              refine ⟨_, rfl, ?_, HB4.out⟩
              first | rw [HMY.out] | skip
              exact Kd.R_mono KO4.out (fun _ _ => trivial)
            · have b4 : (mode == 4) = false := beq_eq_false_iff_ne.mpr m4
              by_cases m5 : mode = 5
              · subst m5
                clear m1 b1
                clear m2 b2
                clear m4 b4
                go_wp2
                go_ret
                refine ⟨_, rfl, ?_, HB4.out⟩
                first | rw [HMY.out] | skip
                exact Kd.R_mono KO4.out (fun _ _ => trivial)
              · have b5 : (mode == 5) = false := beq_eq_false_iff_ne.mpr m5
                have HMO := Aside0.mk (show mode ≠ 1 ∧ mode ≠ 2 ∧ mode ≠ 4 ∧ mode ≠ 5 from ⟨m1, m2, m4, m5⟩)
                clear m1 m2 m4 m5
                go_wp2
                go_ret
                refine ⟨_, rfl, ?_, HB4.out⟩
                first | rw [HMY.out] | skip
                exact Kd.R_mono KO4.out (fun _ _ => trivial)
    · have e2 : decide (500 < n) = false := decide_eq_false hn5
      obtain ⟨m, rfl⟩ : ∃ m : Nat, n = (m : Int) := ⟨n.toNat, by omega⟩
      clear hn
      have hm5 : (m : Int) ≤ 500 := by omega
      clear hn5
      by_cases hm0 : m = 0
      · subst hm0
        go_enter Try.func32, Try.ntmps32
        go_upto_region 5 with (first | ((with_reducible refine gate_dst (N := 4) rfl ?_); refine box_event rfl (N := 4) rfl (cs := #[.int .i64 free]) (t := 3) (by first | (go_simp; done) | (go_simp; rfl)) ?_; intro gb hg_ w1 hbx hb; have KB1 := Aside0.mk hbx; have HB1 := Aside0.mk (below_step HB.out hb); have HGB := Aside0.mk (show w.heap.size ≤ gb by omega); clear hg_ hbx hb) | ((with_reducible refine gate_dst (N := 18) rfl ?_); refine Kd.R_make (Kd.int .i64) _ 3 rfl (N := 18) rfl 51 _ _ rfl ((0 : Nat) : Int) rfl rfl Try.underlying51 (.int .i64 0) 8 info3 rfl (by decide) (by omega) 0 (ok := fun _ => True) (okp := fun _ => True) rfl (fun _ hk => hk) trivial (by omega) (by omega) (Below.refl _ _) (Nat.le_refl _) ?_; intro vo w2 ho hb hg_ hat; have KO2 : Aside0 ((Kd.int .i64).R 3 w2 w1.heap.size (fun _ => True) vo (List.replicate 0 0)) := ⟨ho⟩; have KB2 := Aside0.mk (blk_below KB1.out hb); have HB2 := Aside0.mk (below_step HB1.out hb); have S1 := Aside0.mk HB1.out.size; have LB := Aside0.mk (blk_lt KB1.out); have hcb : w2.cell? ⟨gb, 0, none⟩ = some (.int .i64 free) := (blk_cell KB2.out 0).trans rfl; clear ho hb hg_ hat) | (go_at_call 51; (with_reducible refine (fix_Cut.calls free c _ HCF.out).mono ?_); rintro e w3 ⟨rfl, hb⟩; have KB3 := Aside0.mk (blk_below KB2.out hb); have KO3 := Aside0.mk (Kd.R_below KO2.out hb); have HB3 := Aside0.mk (below_step HB2.out hb); have hcb3 : w3.cell? ⟨gb, 0, none⟩ = some (.int .i64 free) := (blk_cell KB3.out 0).trans rfl; have fcb3 := blk_frozen KB3.out 0; clear hb))
        have KB4 : Aside0 ((w3.setCell ⟨gb, 0, none⟩ (.int .i64 c)).heap[gb]? = some (.cells #[.int .i64 c] 3 (0, 0))) := ⟨blk_put KB3.out 0 (.int .i64 c) rfl⟩
        have KO4 : Aside0 ((Kd.int .i64).R 3 (w3.setCell ⟨gb, 0, none⟩ (.int .i64 c)) w.heap.size (fun q => q ≠ gb) vo (List.replicate 0 0)) := ⟨Kd.R_far (p := ⟨gb, 0, none⟩) (Kd.R_lower (Kd.R_mono (Kd.R_bound KO3.out) (ok' := fun q => q ≠ gb) (fun q hq => by have := hq.2.1; have := LB.out; omega)) S1.out) (fun q hq => hq) (.int .i64 c)⟩
        have HB4 : Aside0 (Below w.heap.size w (w3.setCell ⟨gb, 0, none⟩ (.int .i64 c))) := ⟨HB3.out.setCell HGB.out _⟩
        clear hcb hcb3 fcb3 KB1 KB2 KB3 KO2 KO3 HB1 HB2 HB3
        generalize w3.setCell ⟨gb, 0, none⟩ (.int .i64 c) = w4 at KB4 KO4 HB4 ⊢
        have hcb : w4.cell? ⟨gb, 0, none⟩ = some (.int .i64 c) := (blk_cell KB4.out 0).trans rfl
        have hmany : manyOf 0 = 0 := by rfl
        have HMY := Aside0.mk hmany
        clear hmany
        by_cases hcz : c ≤ 0
        · have ec : decide (c ≤ 0) = true := decide_eq_true hcz
          have HCZ := Aside0.mk hcz
          clear hcz
          by_cases m1 : mode = 1
          · subst m1
            go_wp2
            go_ret
            refine ⟨_, rfl, ?_, HB4.out⟩
            first | rw [HMY.out] | skip
            exact Kd.R_mono KO4.out (fun _ _ => trivial)
          · have b1 : (mode == 1) = false := beq_eq_false_iff_ne.mpr m1
            by_cases m2 : mode = 2
            · subst m2
              clear m1 b1
              go_wp2
              go_ret
              refine ⟨_, rfl, ?_, HB4.out⟩
              first | rw [HMY.out] | skip
              exact Kd.R_mono KO4.out (fun _ _ => trivial)
            · have b2 : (mode == 2) = false := beq_eq_false_iff_ne.mpr m2
              by_cases m4 : mode = 4
              · subst m4
                clear m1 b1
                clear m2 b2
                go_wp2
                go_ret
                refine ⟨_, rfl, ?_, HB4.out⟩
                first | rw [HMY.out] | skip
                exact Kd.R_mono KO4.out (fun _ _ => trivial)
              · have b4 : (mode == 4) = false := beq_eq_false_iff_ne.mpr m4
                by_cases m5 : mode = 5
                · subst m5
                  clear m1 b1
                  clear m2 b2
                  clear m4 b4
                  go_wp2
                  go_ret
                  refine ⟨_, rfl, ?_, HB4.out⟩
                  first | rw [HMY.out] | skip
                  exact Kd.R_mono KO4.out (fun _ _ => trivial)
                · have b5 : (mode == 5) = false := beq_eq_false_iff_ne.mpr m5
                  have HMO := Aside0.mk (show mode ≠ 1 ∧ mode ≠ 2 ∧ mode ≠ 4 ∧ mode ≠ 5 from ⟨m1, m2, m4, m5⟩)
                  clear m1 m2 m4 m5
                  go_wp2
                  go_ret
                  refine ⟨_, rfl, ?_, HB4.out⟩
                  first | rw [HMY.out] | skip
                  exact Kd.R_mono KO4.out (fun _ _ => trivial)
        · have ec : decide (c ≤ 0) = false := decide_eq_false hcz
          have HCZ := Aside0.mk hcz
          clear hcz
          by_cases m1 : mode = 1
          · subst m1
            go_wp2
            go_ret
            refine ⟨_, rfl, ?_, HB4.out⟩
            first | rw [HMY.out] | skip
            exact Kd.R_mono KO4.out (fun _ _ => trivial)
          · have b1 : (mode == 1) = false := beq_eq_false_iff_ne.mpr m1
            by_cases m2 : mode = 2
            · subst m2
              clear m1 b1
              go_wp2
              go_ret
              refine ⟨_, rfl, ?_, HB4.out⟩
              first | rw [HMY.out] | skip
              exact Kd.R_mono KO4.out (fun _ _ => trivial)
            · have b2 : (mode == 2) = false := beq_eq_false_iff_ne.mpr m2
              by_cases m4 : mode = 4
              · subst m4
                clear m1 b1
                clear m2 b2
                go_wp2
                go_ret
                refine ⟨_, rfl, ?_, HB4.out⟩
                first | rw [HMY.out] | skip
                exact Kd.R_mono KO4.out (fun _ _ => trivial)
              · have b4 : (mode == 4) = false := beq_eq_false_iff_ne.mpr m4
                by_cases m5 : mode = 5
                · subst m5
                  clear m1 b1
                  clear m2 b2
                  clear m4 b4
                  go_wp2
                  go_ret
                  refine ⟨_, rfl, ?_, HB4.out⟩
                  first | rw [HMY.out] | skip
                  exact Kd.R_mono KO4.out (fun _ _ => trivial)
                · have b5 : (mode == 5) = false := beq_eq_false_iff_ne.mpr m5
                  have HMO := Aside0.mk (show mode ≠ 1 ∧ mode ≠ 2 ∧ mode ≠ 4 ∧ mode ≠ 5 from ⟨m1, m2, m4, m5⟩)
                  clear m1 m2 m4 m5
                  go_wp2
                  go_ret
                  refine ⟨_, rfl, ?_, HB4.out⟩
                  first | rw [HMY.out] | skip
                  exact Kd.R_mono KO4.out (fun _ _ => trivial)
      · have em : ((m : Int) == 0) = false := beq_eq_false_iff_ne.mpr (by omega)
        have HM0 := Aside0.mk (show 0 < m by omega)
        clear hm0
        go_enter Try.func32, Try.ntmps32
        go_upto_region 5 with (first | ((with_reducible refine gate_dst (N := 4) rfl ?_); refine box_event rfl (N := 4) rfl (cs := #[.int .i64 free]) (t := 3) (by first | (go_simp; done) | (go_simp; rfl)) ?_; intro gb hg_ w1 hbx hb; have KB1 := Aside0.mk hbx; have HB1 := Aside0.mk (below_step HB.out hb); have HGB := Aside0.mk (show w.heap.size ≤ gb by omega); clear hg_ hbx hb) | ((with_reducible refine gate_dst (N := 18) rfl ?_); refine Kd.R_make (Kd.int .i64) _ 3 rfl (N := 18) rfl 51 _ _ rfl (m : Int) rfl rfl Try.underlying51 (.int .i64 0) 8 info3 rfl (by decide) (by omega) 0 (ok := fun _ => True) (okp := fun _ => True) rfl (fun _ hk => hk) trivial (by omega) (by omega) (Below.refl _ _) (Nat.le_refl _) ?_; intro vo w2 ho hb hg_ hat; have KO2 : Aside0 ((Kd.int .i64).R 3 w2 w1.heap.size (fun _ => True) vo (List.replicate m 0)) := ⟨ho⟩; have KB2 := Aside0.mk (blk_below KB1.out hb); have HB2 := Aside0.mk (below_step HB1.out hb); have S1 := Aside0.mk HB1.out.size; have LB := Aside0.mk (blk_lt KB1.out); have hcb : w2.cell? ⟨gb, 0, none⟩ = some (.int .i64 free) := (blk_cell KB2.out 0).trans rfl; clear ho hb hg_ hat) | (go_at_call 51; (with_reducible refine (fix_Cut.calls free c _ HCF.out).mono ?_); rintro e w3 ⟨rfl, hb⟩; have KB3 := Aside0.mk (blk_below KB2.out hb); have KO3 := Aside0.mk (Kd.R_below KO2.out hb); have HB3 := Aside0.mk (below_step HB2.out hb); have hcb3 : w3.cell? ⟨gb, 0, none⟩ = some (.int .i64 free) := (blk_cell KB3.out 0).trans rfl; have fcb3 := blk_frozen KB3.out 0; clear hb))
        have KB4 : Aside0 ((w3.setCell ⟨gb, 0, none⟩ (.int .i64 c)).heap[gb]? = some (.cells #[.int .i64 c] 3 (0, 0))) := ⟨blk_put KB3.out 0 (.int .i64 c) rfl⟩
        have KO4 : Aside0 ((Kd.int .i64).R 3 (w3.setCell ⟨gb, 0, none⟩ (.int .i64 c)) w.heap.size (fun q => q ≠ gb) vo (List.replicate m 0)) := ⟨Kd.R_far (p := ⟨gb, 0, none⟩) (Kd.R_lower (Kd.R_mono (Kd.R_bound KO3.out) (ok' := fun q => q ≠ gb) (fun q hq => by have := hq.2.1; have := LB.out; omega)) S1.out) (fun q hq => hq) (.int .i64 c)⟩
        have HB4 : Aside0 (Below w.heap.size w (w3.setCell ⟨gb, 0, none⟩ (.int .i64 c))) := ⟨HB3.out.setCell HGB.out _⟩
        clear hcb hcb3 fcb3 KB1 KB2 KB3 KO2 KO3 HB1 HB2 HB3
        generalize w3.setCell ⟨gb, 0, none⟩ (.int .i64 c) = w4 at KB4 KO4 HB4 ⊢
        have hcb : w4.cell? ⟨gb, 0, none⟩ = some (.int .i64 c) := (blk_cell KB4.out 0).trans rfl
        have hmany : manyOf (m : Int) = m := by unfold manyOf; rw [if_neg (by omega), if_neg (by omega)]; rfl
        have HMY := Aside0.mk hmany
        clear hmany
        obtain ⟨go, cap, hvo, _, _⟩ := Kd.R_form KO4.out (by rw [List.length_replicate]; exact HM0.out)
        rw [List.length_replicate] at hvo
        subst hvo
        by_cases hcz : c ≤ 0
        · have ec : decide (c ≤ 0) = true := decide_eq_true hcz
          have HCZ := Aside0.mk hcz
          clear hcz
          by_cases m1 : mode = 1
          · subst m1
            have hm0 := HM0.out
            have HSP : Aside0 (modeOf 1 c = 1) := ⟨by have := HCZ.out; unfold modeOf; first | (rw [if_pos (by omega)]; rfl) | rw [if_neg (by omega)]⟩
            obtain ⟨co, fo⟩ := Kd.R_celln (0 : Int) KO4.out 0 (by omega) (by omega)
            replace co : w4.cell? ⟨go, 0, none⟩ = _ := co
            replace fo : w4.frozen? ⟨go, 0, none⟩ = _ := fo
            go_wp2
            go_ret
            refine ⟨_, rfl, ?_, HB4.out.setCell (p := ⟨go, 0, none⟩) (Kd.R_base KO4.out go rfl) _⟩
            rw [HMY.out, sp1 _ c m hm0 HSP.out]
            exact Kd.R_mono (Kd.R_putn KO4.out 0 c) (fun _ _ => trivial)
          · have b1 : (mode == 1) = false := beq_eq_false_iff_ne.mpr m1
            by_cases m2 : mode = 2
            · subst m2
              clear m1 b1
              have hm0 := HM0.out
              have HSP : Aside0 (modeOf 2 c = 2) := ⟨by have := HCZ.out; unfold modeOf; first | (rw [if_pos (by omega)]; rfl) | rw [if_neg (by omega)]⟩
              go_wp2_with (go_at_call 54; (with_reducible refine (fix_Part.calls c 1 2 _ _ (part_a c 1 2)).mono ?_); rintro e w5 ⟨rfl, hb⟩; have KO5 := Aside0.mk (Kd.R_below KO4.out hb); have HB5 := Aside0.mk (below_step HB4.out hb); obtain ⟨co, fo⟩ := Kd.R_celln (0 : Int) KO5.out 0 (by omega) (by omega); have co2 : w5.cell? ⟨go, 0, none⟩ = _ := co; have fo2 : w5.frozen? ⟨go, 0, none⟩ = _ := fo; clear hb co fo)
              go_ret
              refine ⟨_, rfl, ?_, HB5.out.setCell (p := ⟨go, 0, none⟩) (Kd.R_base KO4.out go rfl) _⟩
              rw [HMY.out, sp2 _ c m hm0 HSP.out]
              exact Kd.R_mono (Kd.R_putn KO5.out 0 (part c 1 2)) (fun _ _ => trivial)
            · have b2 : (mode == 2) = false := beq_eq_false_iff_ne.mpr m2
              by_cases m4 : mode = 4
              · subst m4
                clear m1 b1
                clear m2 b2
                have hm0 := HM0.out
                have HSP : Aside0 (modeOf 4 c = 0) := ⟨by have := HCZ.out; unfold modeOf; first | (rw [if_pos (by omega)]; rfl) | rw [if_neg (by omega)]⟩
                go_wp2
                go_ret
                refine ⟨_, rfl, ?_, HB4.out⟩
                rw [HMY.out, spo _ c m hm0 HSP.out]
                exact Kd.R_mono KO4.out (fun _ _ => trivial)
              · have b4 : (mode == 4) = false := beq_eq_false_iff_ne.mpr m4
                by_cases m5 : mode = 5
                · subst m5
                  clear m1 b1
                  clear m2 b2
                  clear m4 b4
                  have hm0 := HM0.out
                  have HSP : Aside0 (modeOf 5 c = 2) := ⟨by have := HCZ.out; unfold modeOf; first | (rw [if_pos (by omega)]; rfl) | rw [if_neg (by omega)]⟩
                  go_wp2_with (go_at_call 54; (with_reducible refine (fix_Part.calls c 1 2 _ _ (part_a c 1 2)).mono ?_); rintro e w5 ⟨rfl, hb⟩; have KO5 := Aside0.mk (Kd.R_below KO4.out hb); have HB5 := Aside0.mk (below_step HB4.out hb); obtain ⟨co, fo⟩ := Kd.R_celln (0 : Int) KO5.out 0 (by omega) (by omega); have co2 : w5.cell? ⟨go, 0, none⟩ = _ := co; have fo2 : w5.frozen? ⟨go, 0, none⟩ = _ := fo; clear hb co fo)
                  go_ret
                  refine ⟨_, rfl, ?_, HB5.out.setCell (p := ⟨go, 0, none⟩) (Kd.R_base KO4.out go rfl) _⟩
                  rw [HMY.out, sp2 _ c m hm0 HSP.out]
                  exact Kd.R_mono (Kd.R_putn KO5.out 0 (part c 1 2)) (fun _ _ => trivial)
                · have b5 : (mode == 5) = false := beq_eq_false_iff_ne.mpr m5
                  have HMO := Aside0.mk (show mode ≠ 1 ∧ mode ≠ 2 ∧ mode ≠ 4 ∧ mode ≠ 5 from ⟨m1, m2, m4, m5⟩)
                  clear m1 m2 m4 m5
                  go_wp2
                  go_ret
                  refine ⟨_, rfl, ?_, HB4.out⟩
                  rw [HMY.out, show spreadOf (modeOf mode c) c m = List.replicate m 0 from other_le HCZ.out HMO.out HM0.out]
                  exact Kd.R_mono KO4.out (fun _ _ => trivial)
        · have ec : decide (c ≤ 0) = false := decide_eq_false hcz
          have HCZ := Aside0.mk hcz
          clear hcz
          by_cases m1 : mode = 1
          · subst m1
            have hm0 := HM0.out
            have HSP : Aside0 (modeOf 1 c = 1) := ⟨by have := HCZ.out; unfold modeOf; first | (rw [if_pos (by omega)]; rfl) | rw [if_neg (by omega)]⟩
            obtain ⟨co, fo⟩ := Kd.R_celln (0 : Int) KO4.out 0 (by omega) (by omega)
            replace co : w4.cell? ⟨go, 0, none⟩ = _ := co
            replace fo : w4.frozen? ⟨go, 0, none⟩ = _ := fo
            go_wp2
            go_ret
            refine ⟨_, rfl, ?_, HB4.out.setCell (p := ⟨go, 0, none⟩) (Kd.R_base KO4.out go rfl) _⟩
            rw [HMY.out, sp1 _ c m hm0 HSP.out]
            exact Kd.R_mono (Kd.R_putn KO4.out 0 c) (fun _ _ => trivial)
          · have b1 : (mode == 1) = false := beq_eq_false_iff_ne.mpr m1
            by_cases m2 : mode = 2
            · subst m2
              clear m1 b1
              have hm0 := HM0.out
              have HSP : Aside0 (modeOf 2 c = 2) := ⟨by have := HCZ.out; unfold modeOf; first | (rw [if_pos (by omega)]; rfl) | rw [if_neg (by omega)]⟩
              go_wp2_with (go_at_call 54; (with_reducible refine (fix_Part.calls c 1 2 _ _ (part_a c 1 2)).mono ?_); rintro e w5 ⟨rfl, hb⟩; have KO5 := Aside0.mk (Kd.R_below KO4.out hb); have HB5 := Aside0.mk (below_step HB4.out hb); obtain ⟨co, fo⟩ := Kd.R_celln (0 : Int) KO5.out 0 (by omega) (by omega); have co2 : w5.cell? ⟨go, 0, none⟩ = _ := co; have fo2 : w5.frozen? ⟨go, 0, none⟩ = _ := fo; clear hb co fo)
              go_ret
              refine ⟨_, rfl, ?_, HB5.out.setCell (p := ⟨go, 0, none⟩) (Kd.R_base KO4.out go rfl) _⟩
              rw [HMY.out, sp2 _ c m hm0 HSP.out]
              exact Kd.R_mono (Kd.R_putn KO5.out 0 (part c 1 2)) (fun _ _ => trivial)
            · have b2 : (mode == 2) = false := beq_eq_false_iff_ne.mpr m2
              by_cases m4 : mode = 4
              · subst m4
                clear m1 b1
                clear m2 b2
                have hm0 := HM0.out
                have HSP : Aside0 (modeOf 4 c = 4) := ⟨by have := HCZ.out; unfold modeOf; first | (rw [if_pos (by omega)]; rfl) | rw [if_neg (by omega)]⟩
                have hmc : m ≤ cap := (Kd.R_reads' KO4.out).2.1
                have HMC := Aside0.mk hmc
                obtain ⟨go', cap', tail, hv, hgb, hraw, htl, hcm⟩ := raw_of KO4.out (by rw [List.length_replicate]; exact hm0)
                rw [List.length_replicate] at hv htl
                injection hv with hv1 _ hv2
                injection hv1 with hv1
                injection hv1 with hv1
                subst hv1; subst hv2
                have HRAW := Aside0.mk hraw
                have HTL := Aside0.mk htl
                have HCM := Aside0.mk hcm
                have HGO := Aside0.mk hgb
                have NGO := Aside0.mk (KO4.out.1 go rfl)
                have OC : Aside0 (∀ w' : World, w'.heap[gb]? = some (.cells #[.int .i64 c] 3 (0, 0)) → Calls Try.prog 79 #[.int .i64 (wrap64 ((m : Int) - 1)), .pointer (some ⟨gb, 0, none⟩)] w' fun e w'' => ∃ v : Value, e = .returned v ∧ Kd.R (Kd.int .i64) 3 w'' w'.heap.size (fun _ => True) v (ones c (m - 1)) ∧ Below w'.heap.size w' w'') := ⟨fun w' h => by have h2 := ones_calls gb c (m - 1) w' h (by omega); rw [show ((m - 1 : Nat) : Int) = wrap64 ((m : Int) - 1) by unfold wrap64; omega] at h2; exact h2⟩
                clear hraw htl hcm hgb hmc
                by_cases hm2 : m = 1
                · have h1m : 1 ≤ m := by omega
                  have h1i : (1 : Int) ≤ (m : Int) := by omega
                  have KBD : Aside0 (w4.drew.heap[gb]? = some (.cells #[.int .i64 c] 3 (0, 0))) := ⟨KB4.out⟩
                  have KOD : Aside0 (Kd.R (Kd.int .i64) 3 w4.drew w.heap.size (fun q => q ≠ gb) (.slice (some ⟨go, 0, none⟩) m cap) (List.replicate m 0)) := ⟨KO4.out⟩
                  have HM1 := Aside0.mk hm2
                  have hmc : m ≤ cap := HMC.out
                  clear hm2
                  by_cases hcap : cap = 1
                  · subst hcap
                    go_wp2_with fail
                    refine start_ (n := 7) (S := fun w' => True) (ds := [6]) #[false, false, false, false, false, false, false] (by kernel_rfl) rfl rfl trivial (fun hHeld => ?_)
                    refine pure_ (i := 0) (N := some 48) (v := ?_) (a' := ?_) #[true, false, false, false, false, false, false] rfl rfl (by kernel_rfl) (fun _ _ _ h => h) (Or.inl ⟨by rfl, ?_⟩) ?_ ?_
                    rotate_left
                    · intro w'
                      go_simp
                      with_reducible rfl
                    rotate_left
                    · simp only [Act.put, List.setIfInBounds_toArray, List.set_cons_zero, List.set_cons_succ, i64_w, i32_w]
                      rfl
                    refine pure_ (i := 1) (N := some 49) (v := ?_) (a' := ?_) #[true, true, false, false, false, false, false] rfl rfl (by kernel_rfl) (fun _ _ _ h => h) (Or.inl ⟨by rfl, ?_⟩) ?_ ?_
                    rotate_left
                    · intro w'
                      go_simp
                      with_reducible rfl
                    rotate_left
                    · simp only [Act.put, List.setIfInBounds_toArray, List.set_cons_zero, List.set_cons_succ, i64_w, i32_w]
                      rfl
                    refine pure_ (i := 2) (N := some 50) (v := ?_) (a' := ?_) #[true, true, true, false, false, false, false] rfl rfl (by kernel_rfl) (fun _ _ _ h => h) (Or.inl ⟨by rfl, ?_⟩) ?_ ?_
                    rotate_left
                    · intro w'
                      go_simp
                      with_reducible rfl
                    rotate_left
                    · simp only [Act.put, List.setIfInBounds_toArray, List.set_cons_zero, List.set_cons_succ, i64_w, i32_w]
                      rfl
                    refine pure_ (i := 3) (N := some 51) (v := ?_) (a' := ?_) #[true, true, true, true, false, false, false] rfl rfl (by kernel_rfl) (fun _ _ _ h => h) (Or.inl ⟨by rfl, ?_⟩) ?_ ?_
                    rotate_left
                    · intro w'
                      go_simp
                      with_reducible rfl
                    rotate_left
                    · simp only [Act.put, List.setIfInBounds_toArray, List.set_cons_zero, List.set_cons_succ, i64_w, i32_w]
                      rfl
                    refine pure_ (i := 4) (N := some 52) (v := ?_) (a' := ?_) #[true, true, true, true, true, false, false] rfl rfl (by kernel_rfl) (fun _ _ _ h => h) (Or.inl ⟨by rfl, ?_⟩) ?_ ?_
                    rotate_left
                    · intro w'
                      go_simp
                      with_reducible rfl
                    rotate_left
                    · simp only [Act.put, List.setIfInBounds_toArray, List.set_cons_zero, List.set_cons_succ, i64_w, i32_w]
                      rfl
                    refine one_ (i := 5) (N := some 53) #[true, true, true, true, true, true, false] rfl rfl (by kernel_rfl) (by decide) (fun K hK => ?_)
                    refine goesT_ Try.func79 (by kernel_rfl) rfl #[.int .i64 (wrap64 ((m : Int) - 1)), .pointer (some ⟨gb, 0, none⟩)] (by rfl) rfl rfl rfl (by simp only [List.map_toArray, List.map_cons, List.map_nil]; rfl) ?_
                    with_reducible refine (OC.out _ KBD.out).mono ?_
                    rintro e w5 ⟨v5, rfl, hv, hb⟩
                    refine ⟨_, rfl, ?_⟩
                    obtain ⟨A3, k3, hv3⟩ := Kd.R_slice hv
                    rw [ones_length] at hv3
                    subst hv3
                    have KO5 := Aside0.mk (Kd.R_below KOD.out hb)
                    have BB5 := Aside0.mk (below_step (below_drew1b HB4.out) hb)
                    clear hv hb
                    refine hK.out _ _ trivial (fun hHeld => ?_)
                    clear hK K
                    refine norm_ (a' := ?_) ?_ ?_
                    rotate_left
                    · show Act.put _ (some 53) _ = _
                      simp only [Act.put, List.setIfInBounds_toArray, List.set_cons_zero, List.set_cons_succ, i64_w, i32_w]
                      rfl
                    refine last_ (i := 6) (N := some 54) #[true, true, true, true, true, true, true] rfl rfl (by kernel_rfl) (by decide) (fun K hK => ?_)
                    have hrun := run_copy_none (P := Try.prog) w5 51 51 3 3 (some ⟨go, 0, none⟩) A3 (m - 1) (1 - 1) (m - 1) k3 Try.underlying51 (by kernel_rfl) (by have := HM1.out; subst this; rfl)
                    refine value_ (by rfl) rfl (copy_run (v1 := .slice _ _ _) (v2 := .slice A3 (m - 1) k3) (.tmp 49) (.tmp 53) 51 51 (by rfl) rfl (by rfl) _ _ (run_copy_none (P := Try.prog) w5 51 51 3 3 _ A3 _ _ (m - 1) k3 Try.underlying51 (by kernel_rfl) (by have := HM1.out; subst this; rfl))) ?_
                    skip
                    refine hK.out _ _ ?_
                    clear hK K
                    refine norm_ (a' := ?_) ?_ ?_
                    rotate_left
                    · show Act.put _ (some 54) _ = _
                      simp only [Act.put, List.setIfInBounds_toArray, List.set_cons_zero, List.set_cons_succ, i64_w, i32_w]
                      rfl
                    refine done_ (by kernel_rfl) ?_
                    go_wp2
                    go_ret
                    refine ⟨_, rfl, ?_, BB5.out⟩
                    rw [HMY.out, sp4 _ c m hm0 HSP.out]
                    have hfin := Kd.R_mono KO5.out (ok' := fun _ => True) (fun _ _ => trivial)
                    rw [show (0 :: ones c (m - 1)) = List.replicate m 0 by have := HM1.out; subst this; rw [List.eq_nil_of_length_eq_zero (ones_length c (1 - 1))]; rfl]
                    exact hfin
                  · have hc1 : ¬ (1 = cap) := fun h => hcap h.symm
                    have hc2 : (cap = 1) = False := eq_false hcap
                    go_wp2_with fail
                    refine start_ (n := 7) (S := fun w' => True) (ds := [6]) #[false, false, false, false, false, false, false] (by kernel_rfl) rfl rfl trivial (fun hHeld => ?_)
                    refine pure_ (i := 0) (N := some 48) (v := ?_) (a' := ?_) #[true, false, false, false, false, false, false] rfl rfl (by kernel_rfl) (fun _ _ _ h => h) (Or.inl ⟨by rfl, ?_⟩) ?_ ?_
                    rotate_left
                    · intro w'
                      go_simp
                      with_reducible rfl
                    rotate_left
                    · simp only [Act.put, List.setIfInBounds_toArray, List.set_cons_zero, List.set_cons_succ, i64_w, i32_w]
                      rfl
                    refine pure_ (i := 1) (N := some 49) (v := ?_) (a' := ?_) #[true, true, false, false, false, false, false] rfl rfl (by kernel_rfl) (fun _ _ _ h => h) (Or.inl ⟨by rfl, ?_⟩) ?_ ?_
                    rotate_left
                    · intro w'
                      go_simp
                      with_reducible rfl
                    rotate_left
                    · simp only [Act.put, List.setIfInBounds_toArray, List.set_cons_zero, List.set_cons_succ, i64_w, i32_w]
                      rfl
                    refine pure_ (i := 2) (N := some 50) (v := ?_) (a' := ?_) #[true, true, true, false, false, false, false] rfl rfl (by kernel_rfl) (fun _ _ _ h => h) (Or.inl ⟨by rfl, ?_⟩) ?_ ?_
                    rotate_left
                    · intro w'
                      go_simp
                      with_reducible rfl
                    rotate_left
                    · simp only [Act.put, List.setIfInBounds_toArray, List.set_cons_zero, List.set_cons_succ, i64_w, i32_w]
                      rfl
                    refine pure_ (i := 3) (N := some 51) (v := ?_) (a' := ?_) #[true, true, true, true, false, false, false] rfl rfl (by kernel_rfl) (fun _ _ _ h => h) (Or.inl ⟨by rfl, ?_⟩) ?_ ?_
                    rotate_left
                    · intro w'
                      go_simp
                      with_reducible rfl
                    rotate_left
                    · simp only [Act.put, List.setIfInBounds_toArray, List.set_cons_zero, List.set_cons_succ, i64_w, i32_w]
                      rfl
                    refine pure_ (i := 4) (N := some 52) (v := ?_) (a' := ?_) #[true, true, true, true, true, false, false] rfl rfl (by kernel_rfl) (fun _ _ _ h => h) (Or.inl ⟨by rfl, ?_⟩) ?_ ?_
                    rotate_left
                    · intro w'
                      go_simp
                      with_reducible rfl
                    rotate_left
                    · simp only [Act.put, List.setIfInBounds_toArray, List.set_cons_zero, List.set_cons_succ, i64_w, i32_w]
                      rfl
                    refine one_ (i := 5) (N := some 53) #[true, true, true, true, true, true, false] rfl rfl (by kernel_rfl) (by decide) (fun K hK => ?_)
                    refine goesT_ Try.func79 (by kernel_rfl) rfl #[.int .i64 (wrap64 ((m : Int) - 1)), .pointer (some ⟨gb, 0, none⟩)] (by rfl) rfl rfl rfl (by simp only [List.map_toArray, List.map_cons, List.map_nil]; rfl) ?_
                    with_reducible refine (OC.out _ KBD.out).mono ?_
                    rintro e w5 ⟨v5, rfl, hv, hb⟩
                    refine ⟨_, rfl, ?_⟩
                    obtain ⟨A3, k3, hv3⟩ := Kd.R_slice hv
                    rw [ones_length] at hv3
                    subst hv3
                    have KO5 := Aside0.mk (Kd.R_below KOD.out hb)
                    have BB5 := Aside0.mk (below_step (below_drew1b HB4.out) hb)
                    clear hv hb
                    refine hK.out _ _ trivial (fun hHeld => ?_)
                    clear hK K
                    refine norm_ (a' := ?_) ?_ ?_
                    rotate_left
                    · show Act.put _ (some 53) _ = _
                      simp only [Act.put, List.setIfInBounds_toArray, List.set_cons_zero, List.set_cons_succ, i64_w, i32_w]
                      rfl
                    refine last_ (i := 6) (N := some 54) #[true, true, true, true, true, true, true] rfl rfl (by kernel_rfl) (by decide) (fun K hK => ?_)
                    have hrun := run_copy_none (P := Try.prog) w5 51 51 3 3 (some ⟨go, 1, none⟩) A3 (m - 1) (cap - 1) (m - 1) k3 Try.underlying51 (by kernel_rfl) (by have := HM1.out; subst this; rfl)
                    refine value_ (by rfl) rfl (copy_run (v1 := .slice (some ⟨go, 1, none⟩) (m - 1) (cap - 1)) (v2 := .slice A3 (m - 1) k3) (.tmp 49) (.tmp 53) 51 51 (by rfl) (by rfl) (by rfl) _ _ hrun) ?_
                    clear hrun
                    refine hK.out _ _ ?_
                    clear hK K
                    refine norm_ (a' := ?_) ?_ ?_
                    rotate_left
                    · show Act.put _ (some 54) _ = _
                      simp only [Act.put, List.setIfInBounds_toArray, List.set_cons_zero, List.set_cons_succ, i64_w, i32_w]
                      rfl
                    refine done_ (by kernel_rfl) ?_
                    go_wp2
                    go_ret
                    refine ⟨_, rfl, ?_, BB5.out⟩
                    rw [HMY.out, sp4 _ c m hm0 HSP.out]
                    have hfin := Kd.R_mono KO5.out (ok' := fun _ => True) (fun _ _ => trivial)
                    rw [show (0 :: ones c (m - 1)) = List.replicate m 0 by have := HM1.out; subst this; rw [List.eq_nil_of_length_eq_zero (ones_length c (1 - 1))]; rfl]
                    exact hfin
                · have h1m : 1 ≤ m := by omega
                  have h1l : 1 < m := by omega
                  have h1i : (1 : Int) ≤ (m : Int) := by omega
                  have KBD : Aside0 (w4.drew.heap[gb]? = some (.cells #[.int .i64 c] 3 (0, 0))) := ⟨KB4.out⟩
                  have hc1 : ¬ (1 = cap) := by have := HMC.out; omega
                  have hc2 : (cap = 1) = False := eq_false (by have := HMC.out; omega)
                  have hmc : m ≤ cap := HMC.out
                  go_wp2_with fail
                  refine start_ (n := 7) (S := fun w' => True) (ds := [6]) #[false, false, false, false, false, false, false] (by kernel_rfl) rfl rfl trivial (fun hHeld => ?_)
                  refine pure_ (i := 0) (N := some 48) (v := ?_) (a' := ?_) #[true, false, false, false, false, false, false] rfl rfl (by kernel_rfl) (fun _ _ _ h => h) (Or.inl ⟨by rfl, ?_⟩) ?_ ?_
                  rotate_left
                  · intro w'
                    go_simp
                    with_reducible rfl
                  rotate_left
                  · simp only [Act.put, List.setIfInBounds_toArray, List.set_cons_zero, List.set_cons_succ, i64_w, i32_w]
                    rfl
                  refine pure_ (i := 1) (N := some 49) (v := ?_) (a' := ?_) #[true, true, false, false, false, false, false] rfl rfl (by kernel_rfl) (fun _ _ _ h => h) (Or.inl ⟨by rfl, ?_⟩) ?_ ?_
                  rotate_left
                  · intro w'
                    go_simp
                    with_reducible rfl
                  rotate_left
                  · simp only [Act.put, List.setIfInBounds_toArray, List.set_cons_zero, List.set_cons_succ, i64_w, i32_w]
                    rfl
                  refine pure_ (i := 2) (N := some 50) (v := ?_) (a' := ?_) #[true, true, true, false, false, false, false] rfl rfl (by kernel_rfl) (fun _ _ _ h => h) (Or.inl ⟨by rfl, ?_⟩) ?_ ?_
                  rotate_left
                  · intro w'
                    go_simp
                    with_reducible rfl
                  rotate_left
                  · simp only [Act.put, List.setIfInBounds_toArray, List.set_cons_zero, List.set_cons_succ, i64_w, i32_w]
                    rfl
                  refine pure_ (i := 3) (N := some 51) (v := ?_) (a' := ?_) #[true, true, true, true, false, false, false] rfl rfl (by kernel_rfl) (fun _ _ _ h => h) (Or.inl ⟨by rfl, ?_⟩) ?_ ?_
                  rotate_left
                  · intro w'
                    go_simp
                    with_reducible rfl
                  rotate_left
                  · simp only [Act.put, List.setIfInBounds_toArray, List.set_cons_zero, List.set_cons_succ, i64_w, i32_w]
                    rfl
                  refine pure_ (i := 4) (N := some 52) (v := ?_) (a' := ?_) #[true, true, true, true, true, false, false] rfl rfl (by kernel_rfl) (fun _ _ _ h => h) (Or.inl ⟨by rfl, ?_⟩) ?_ ?_
                  rotate_left
                  · intro w'
                    go_simp
                    with_reducible rfl
                  rotate_left
                  · simp only [Act.put, List.setIfInBounds_toArray, List.set_cons_zero, List.set_cons_succ, i64_w, i32_w]
                    rfl
                  refine one_ (i := 5) (N := some 53) #[true, true, true, true, true, true, false] rfl rfl (by kernel_rfl) (by decide) (fun K hK => ?_)
                  refine goesT_ Try.func79 (by kernel_rfl) rfl #[.int .i64 (wrap64 ((m : Int) - 1)), .pointer (some ⟨gb, 0, none⟩)] (by rfl) rfl rfl rfl (by simp only [List.map_toArray, List.map_cons, List.map_nil]; rfl) ?_
                  with_reducible refine (OC.out _ KBD.out).mono ?_
                  rintro e w5 ⟨v5, rfl, hv, hb⟩
                  refine ⟨_, rfl, ?_⟩
                  obtain ⟨g3, k3, tail3, hv3, hg3, hraw3, _, _⟩ := raw_of hv (by rw [ones_length]; omega)
                  rw [ones_length] at hv3
                  subst hv3
                  have KG5 : Aside0 (w5.heap[go]? = _) := ⟨blk_below (show w4.drew.heap[go]? = _ from HRAW.out) hb⟩
                  have BB5 := Aside0.mk (below_step (below_drew1b HB4.out) hb)
                  have KS5 := Aside0.mk hraw3
                  clear hv hb hg3 hraw3
                  refine hK.out _ _ trivial (fun hHeld => ?_)
                  clear hK K
                  refine norm_ (a' := ?_) ?_ ?_
                  rotate_left
                  · show Act.put _ (some 53) _ = _
                    simp only [Act.put, List.setIfInBounds_toArray, List.set_cons_zero, List.set_cons_succ, i64_w, i32_w]
                    rfl
                  refine last_ (i := 6) (N := some 54) #[true, true, true, true, true, true, true] rfl rfl (by kernel_rfl) (by decide) (fun K hK => ?_)
                  have hrun := run_copy_row (P := Try.prog) w5 51 51 3 3 go 1 (m - 1) (cap - 1) ⟨g3, 0, none⟩ (m - 1) k3 _ 3 (ins (ones c (m - 1))) Try.underlying51 (by kernel_rfl) KG5.out (by rw [ins_length, ones_length]; simp) (ins_at KS5.out) (by rw [ins_length, ones_length]; simp [ins]; omega) (ins_one _)
                  refine value_ (by rfl) rfl (copy_run (v1 := .slice (some ⟨go, 1, none⟩) (m - 1) (cap - 1)) (v2 := .slice (some ⟨g3, 0, none⟩) (m - 1) k3) (.tmp 49) (.tmp 53) 51 51 (by rfl) (by rfl) (by rfl) _ _ hrun) ?_
                  clear hrun
                  refine hK.out _ _ ?_
                  clear hK K
                  refine norm_ (a' := ?_) ?_ ?_
                  rotate_left
                  · show Act.put _ (some 54) _ = _
                    simp only [Act.put, List.setIfInBounds_toArray, List.set_cons_zero, List.set_cons_succ, i64_w, i32_w]
                    rfl
                  refine done_ (by kernel_rfl) ?_
                  rw [put_tail (ones_length c (m - 1)) hm0]
                  have KZ5 : Aside0 ((w5.setRow go (ins (0 :: ones c (m - 1)) ++ tail).toArray).heap[go]? = some (.cells (ins (0 :: ones c (m - 1)) ++ tail).toArray 3 (0, 0))) := ⟨setRow_heap w5 go _ _ 3 (0, 0) KG5.out⟩
                  have BZ5 : Aside0 (Below w.heap.size w (w5.setRow go (ins (0 :: ones c (m - 1)) ++ tail).toArray)) := ⟨below_setRow BB5.out HGO.out _⟩
                  clear KG5 BB5 KS5
                  generalize w5.setRow go (ins (0 :: ones c (m - 1)) ++ tail).toArray = w6 at KZ5 BZ5 ⊢
                  go_wp2
                  go_ret
                  refine ⟨_, rfl, ?_, BZ5.out⟩
                  rw [HMY.out, sp4 _ c m hm0 HSP.out]
                  have hfin := raw_own HGO.out KZ5.out (cap := cap) (by have := HTL.out; rw [List.length_cons, ones_length]; omega) HCM.out
                  rw [List.length_cons, ones_length, show m - 1 + 1 = m by omega] at hfin
                  exact hfin
              · have b4 : (mode == 4) = false := beq_eq_false_iff_ne.mpr m4
                by_cases m5 : mode = 5
                · subst m5
                  clear m1 b1
                  clear m2 b2
                  clear m4 b4
                  have hm0 := HM0.out
                  have HSP : Aside0 (modeOf 5 c = 5) := ⟨by have := HCZ.out; unfold modeOf; first | (rw [if_pos (by omega)]; rfl) | rw [if_neg (by omega)]⟩
                  have OC : Aside0 (∀ w' : World, w'.heap[gb]? = some (.cells #[.int .i64 c] 3 (0, 0)) → Calls Try.prog 79 #[.int .i64 (2 * (m : Int)), .pointer (some ⟨gb, 0, none⟩)] w' fun e w'' => ∃ v : Value, e = .returned v ∧ Kd.R (Kd.int .i64) 3 w'' w'.heap.size (fun _ => True) v (ones c (2 * m)) ∧ Below w'.heap.size w' w'') := ⟨fun w' h => by have h2 := ones_calls gb c (2 * m) w' h (by omega); rw [show ((2 * m : Nat) : Int) = 2 * (m : Int) by omega] at h2; exact h2⟩
                  go_wp2_with (go_at_call 79; ((with_reducible refine (OC.out _ KB4.out).mono ?_); rintro e w5 ⟨v5, rfl, hv, hb⟩; have KQ5 := Aside0.mk hv; have KO5 := Aside0.mk (Kd.R_below KO4.out hb); have HB5 := Aside0.mk (below_step HB4.out hb); have SB4 := Aside0.mk HB4.out.size; obtain ⟨gq, cq, hvq, hgq, _⟩ := Kd.R_form KQ5.out (by rw [ones_length]; omega); rw [ones_length] at hvq; subst hvq; have HQ := Aside0.mk hgq; have hcq : 2 * m ≤ cq := (Kd.R_reads' KQ5.out).2.1; have hcq2 : 2 * (m : Int) - 1 ≤ (cq : Int) := (by omega); have LGO := Aside0.mk (Kd.R_lt KO4.out go rfl); clear hv hb hgq))
                  obtain ⟨q, hq⟩ : ∃ q, ones c (2 * m) = q := ⟨_, rfl⟩
                  have hql : q.length = 2 * m := by rw [← hq]; exact ones_length c (2 * m)
                  rw [hq] at KQ5
                  have HQL := Aside0.mk hql
                  have HQE := Aside0.mk hq
                  clear hq hql
                  have NQB : Aside0 (go ≠ gq) := ⟨by have := LGO.out; have := HQ.out; omega⟩
                  have KO := Aside0.mk (Kd.R_mono KO5.out (ok' := fun _ => True) (fun _ _ => trivial))
                  have KQ := Aside0.mk (Kd.R_mono (Kd.R_bound KQ5.out) (ok' := fun p => p ≠ go) (fun p hp => by have h1 := hp.2.1; have h2 := LGO.out; show p ≠ go; intro h3; subst h3; exact absurd h2 (Nat.not_lt.mpr h1)))
                  clear KO5 KQ5 hcq hcq2 hcb ec
                  go_loopw [67] (fun i wr => ∃ k : Nat, k ≤ 2 * m - 1 ∧ i = .int .i64 k ∧ Aside0 (Kd.R (Kd.int .i64) 3 wr w.heap.size (fun _ => True) (.slice (some ⟨go, 0, none⟩) m cap) (addUp q m k)) ∧ Aside0 (Kd.R (Kd.int .i64) 3 wr w4.heap.size (fun p => p ≠ go) (.slice (some ⟨gq, 0, none⟩) (2 * m) cq) q) ∧ Aside0 (Below w.heap.size w wr)) (fun i _ => 2 * m - 1 - (intOf i).toNat)
                  case atStart => exact ⟨0, Nat.zero_le _, rfl, KO, KQ, HB5⟩
                  case round =>
                    clear KO KQ HB5
                    obtain ⟨k, hk, rfl, KO, KQ, HB⟩ := hrel
                    by_cases hlt : k < 2 * m - 1
                    · have hxq := (Kd.R_celln (0 : Int) KQ.out (k : Int) (by omega) (by omega)).1
                      simp only [Int.toNat_natCast] at hxq
                      obtain ⟨j, hj⟩ : ∃ j, (k + 1) / 2 = j := ⟨_, rfl⟩
                      have hjm : j < m := by omega
                      have hji : ((k : Int) + 1) / 2 = (j : Int) := by omega
                      have hjt : ((k : Int) + 1).tdiv 2 = (j : Int) := by rw [Int.tdiv_eq_ediv_of_nonneg (by omega)]; exact hji
                      obtain ⟨co, fo⟩ := Kd.R_celln (0 : Int) KO.out (j : Int) (by omega) (by omega)
                      simp only [Int.toNat_natCast] at co fo
                      obtain ⟨x, hx⟩ : ∃ x, rd (addUp q m k) j = x := ⟨_, rfl⟩
                      obtain ⟨y, hy⟩ : ∃ y, rd q k = y := ⟨_, rfl⟩
                      have co2 : wr.cell? ⟨go, j, none⟩ = some (.int .i64 x) := by rw [← hx]; exact co
                      have cq2 : wr.cell? ⟨gq, k, none⟩ = some (.int .i64 y) := by rw [← hy]; exact hxq
                      have HST : Aside0 (addUp q m (k + 1) = (addUp q m k).set j (wrap64 (x + y))) := ⟨by rw [← hx, ← hy, ← hj]; rfl⟩
                      clear hx hy co hxq hj
                      go_wp2
                      go_roundw
                      case rel =>
                        have hset := Kd.R_putn KO.out (j : Int) (wrap64 (x + y))
                        simp only [Int.toNat_natCast] at hset
                        exact ⟨k + 1, by omega, by go_num, ⟨by rw [HST.out]; exact hset⟩, ⟨Kd.R_far (p := ⟨go, j, none⟩) KQ.out (fun p hp => hp) _⟩, ⟨HB.out.setCell (p := ⟨go, j, none⟩) (Kd.R_base KO.out go rfl) _⟩⟩
                      case measure => simp [intOf]; omega
                    · obtain rfl : k = 2 * m - 1 := by omega
                      go_wp2
                      go_ret
                      refine ⟨_, rfl, ?_, HB.out⟩
                      rw [HMY.out, sp5 _ c m hm0 HSP.out, HQE.out]
                      exact KO.out
                · have b5 : (mode == 5) = false := beq_eq_false_iff_ne.mpr m5
                  have HMO := Aside0.mk (show mode ≠ 1 ∧ mode ≠ 2 ∧ mode ≠ 4 ∧ mode ≠ 5 from ⟨m1, m2, m4, m5⟩)
                  clear m1 m2 m4 m5
                  go_wp2
                  go_ret
                  refine ⟨_, rfl, ?_, HB4.out⟩
                  rw [HMY.out, show spreadOf (modeOf mode c) c m = List.replicate m 0 from other_gt (by have := HCZ.out; omega) HMO.out HM0.out]
                  exact Kd.R_mono KO4.out (fun _ _ => trivial)
theorem flex_Spread.calls (a0 a1 a2 : Int) (r : List Int) (w : World) (h : flex_Spread.f a0 a1 a2 = some r) :
    Calls Try.prog 32 #[.int .i64 a0, .int .i64 a1, .int .i64 a2] w fun e w' => ∃ v : Value, e = .returned v ∧ Kd.R (Kd.int .i64) 3 w' w.heap.size (fun _ => True) v r ∧ Below w.heap.size w w' := by
  obtain rfl := Option.some.inj h
  exact spread_walk a0 a1 a2 w
end Go.Proofs.Ytaejmgdpnnhpmaa.QFlex
