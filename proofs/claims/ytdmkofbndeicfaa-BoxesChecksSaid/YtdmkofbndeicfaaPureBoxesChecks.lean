/- BoxesChecks in plain Lean: Check tells 0 or 3, and 0 just where the reference's BoxesCheck says yes. -/
import Derived.Test.YtdmkofbndeicfaaQBoxesChecksx1
import Derived.Test.YtdmkofbndeicfaaQBoxesChecksx2
import Derived.Test.YtdmkofbndeicfaaGivBoxed
import Derived.Test.YtdmkofbndeicfaaOpenBoxes
namespace Go.Proofs.Ytdmkofbndeicfaa.QBoxesChecks
open Go.RowKit Go.Proofs.YtdmkofbndeicfaaW.PrintWords Go.Proofs.YtdmkofbndeicfaaW.PrintLast Go.Proofs.YtdmkofbndeicfaaW.PrintMore
set_option linter.unusedVariables false
/-- Are a box's kids right, behind a number? -/
def kidsOk (b : List S87) (i : Int) : Int → List Int → Bool
  | _, [] => true
  | last, k :: ks => if k ≤ last then false else if k ≥ (b.length : Int) then false else if (rd_T87 b k).f2 = i then kidsOk b i k ks else false
/-- Is a box right by itself? -/
def own (i : Int) (x : S87) : Bool := !(decide (x.f0 < 1) || decide (x.f0 > 9) || decide (x.f1 < -1) || (decide (i = 0) && (x.f2 != -1)))
def chk (b : List S87) : Int → Int → List S87 → Bool
  | _, nx, [] => if (b.length : Int) > 0 then decide (nx = wrap64 ((b.length : Int) - 1)) else true
  | i, nx, x :: l => cond (own i x) (cond (kidsOk b i i x.f3) (chk b (i + 1) (wrap64 (nx + (x.f3.length : Int))) l) false) false
theorem drop_rd (l : List Int) (i : Nat) (h : i < l.length) : l.drop i = rd l (i : Int) :: l.drop (i + 1) := by
  have e : rd l (i : Int) = l[i] := by simp [rd, List.getD, h]
  rw [e]; exact List.drop_eq_getElem_cons h
theorem drop_T (l : List S87) (i : Nat) (h : i < l.length) : l.drop i = rd_T87 l (i : Int) :: l.drop (i + 1) := by
  have e : rd_T87 l (i : Int) = l[i] := by simp [rd_T87, List.getD, h]
  rw [e]; exact List.drop_eq_getElem_cons h
theorem kids_a (b : List S87) (nx i : Int) (hi : 0 ≤ i) (ks : List Int) (hk : ks.length ≤ 9223372036854775807) (f0 f1 f2 : Int) (f4 : ByteArray) (R : Int)
    (hR : Ev (fun k => boxes_Check.l0 k b (wrap64 (nx + (ks.length : Int))) b (b.length : Int) (wrap64 (i + 1))) R) (d : Nat) : ∀ (j : Nat) (last : Int), j + d = ks.length → i ≤ last →
    Ev (fun k => boxes_Check.l1 k b nx i last b (b.length : Int) i ks (ks.length : Int) (j : Int) f0 f1 f2 ks f4) (cond (kidsOk b i last (ks.drop j)) R 3) := by
  induction d with
  | zero =>
    intro j last h hl
    obtain rfl : j = ks.length := by omega
    refine Ev.step (f := fun k => boxes_Check.l0 k b (wrap64 (nx + (ks.length : Int))) b (b.length : Int) (wrap64 (i + 1))) (fun k => ?_) ?_
    · show boxes_Check.l1 (k + 1) _ _ _ _ _ _ _ _ _ _ _ _ _ _ _ = _
      rw [boxes_Check.l1, if_neg (by omega)]
    · rw [List.drop_length]
      exact hR
  | succ d ih =>
    intro j last h hl
    have hw : wrap64 ((j : Int) + 1) = ((j + 1 : Nat) : Int) := by unfold wrap64; omega
    rw [drop_rd ks j (by omega)]
    simp only [kidsOk]
    by_cases c1 : rd ks j ≤ last
    · rw [if_pos c1]
      refine Ev.step (f := fun _ => some 3) (fun k => ?_) (Ev.now _)
      show boxes_Check.l1 (k + 1) _ _ _ _ _ _ _ _ _ _ _ _ _ _ _ = _
      rw [boxes_Check.l1, if_pos (by omega), if_pos (by omega), if_pos (by omega), if_pos c1]
    · rw [if_neg c1]
      by_cases c2 : rd ks j ≥ (b.length : Int)
      · rw [if_pos c2]
        refine Ev.step (f := fun _ => some 3) (fun k => ?_) (Ev.now _)
        show boxes_Check.l1 (k + 1) _ _ _ _ _ _ _ _ _ _ _ _ _ _ _ = _
        rw [boxes_Check.l1, if_pos (by omega), if_pos (by omega), if_pos (by omega), if_neg c1, if_pos c2]
      · rw [if_neg c2]
        by_cases c3 : (rd_T87 b (rd ks j)).f2 = i
        · rw [if_pos c3]
          refine Ev.step (f := fun k => boxes_Check.l1 k b nx i (rd ks j) b (b.length : Int) i ks (ks.length : Int) ((j + 1 : Nat) : Int) f0 f1 f2 ks f4) (fun k => ?_) (ih (j + 1) _ (by omega) (by omega))
          show boxes_Check.l1 (k + 1) _ _ _ _ _ _ _ _ _ _ _ _ _ _ _ = _
          rw [boxes_Check.l1, if_pos (by omega), if_pos (by omega), if_pos (by omega), if_neg c1, if_neg c2, if_pos (by omega), if_pos (by omega), if_pos c3, hw]
        · rw [if_neg c3]
          refine Ev.step (f := fun _ => some 3) (fun k => ?_) (Ev.now _)
          show boxes_Check.l1 (k + 1) _ _ _ _ _ _ _ _ _ _ _ _ _ _ _ = _
          rw [boxes_Check.l1, if_pos (by omega), if_pos (by omega), if_pos (by omega), if_neg c1, if_neg c2, if_pos (by omega), if_pos (by omega), if_neg c3]
theorem own_a (k : Nat) (b : List S87) (nx : Int) (i : Nat) (hi : i < b.length) :
    boxes_Check.l0 (k + 1) b nx b (b.length : Int) (i : Int) = boxes_Check.j1 k b nx i b (b.length : Int) i (!own i (rd_T87 b i)) (rd_T87 b i).f0 (rd_T87 b i).f1 (rd_T87 b i).f2 (rd_T87 b i).f3 (rd_T87 b i).f4 := by
  rw [boxes_Check.l0, if_pos (by omega), if_pos (by omega), if_pos (by omega)]
  unfold own
  by_cases c1 : (rd_T87 b i).f0 < 1
  · rw [if_pos c1, decide_eq_true c1]; rfl
  · rw [if_neg c1, decide_eq_false c1]
    by_cases c2 : (rd_T87 b i).f0 > 9
    · rw [if_pos c2, decide_eq_true c2]; rfl
    · rw [if_neg c2, decide_eq_false c2]
      by_cases c3 : (rd_T87 b i).f1 < -1
      · rw [if_pos c3, decide_eq_true c3]; rfl
      · rw [if_neg c3, decide_eq_false c3]
        by_cases c4 : (i : Int) = 0
        · rw [if_pos c4, decide_eq_true c4]; simp only [Bool.false_or, Bool.true_and, Bool.not_not]
        · rw [if_neg c4, decide_eq_false c4]; rfl
theorem chk_a (b : List S87) (hb : b.length ≤ 2199023255551) (hk : ∀ x ∈ b, x.f3.length ≤ 9223372036854775807) (d : Nat) : ∀ (i : Nat) (nx : Int), i + d = b.length →
    Ev (fun k => boxes_Check.l0 k b nx b (b.length : Int) (i : Int)) (cond (chk b i nx (b.drop i)) 0 3) := by
  induction d with
  | zero =>
    intro i nx h
    obtain rfl : i = b.length := by omega
    refine Ev.step (f := fun _ => some (cond (chk b b.length nx (b.drop b.length)) 0 3)) (fun k => ?_) (Ev.now _)
    show boxes_Check.l0 (k + 1) _ _ _ _ _ = _
    rw [boxes_Check.l0, if_neg (by omega), List.drop_length]
    simp only [chk]
    by_cases c : (b.length : Int) > 0
    · rw [if_pos c, if_pos c]
      by_cases e : nx = wrap64 ((b.length : Int) - 1)
      · rw [if_pos e]; simp [e]
      · rw [if_neg e]; simp [e]
    · rw [if_neg c, if_neg c]; simp
  | succ d ih =>
    intro i nx h
    have hw : wrap64 ((i : Int) + 1) = ((i + 1 : Nat) : Int) := by unfold wrap64; omega
    have hm : rd_T87 b i ∈ b := by
      have : b.drop i = rd_T87 b i :: b.drop (i + 1) := drop_T b i (by omega)
      exact List.mem_of_mem_drop (by rw [this]; simp)
    rw [drop_T b i (by omega)]
    simp only [chk]
    refine Ev.step (f := fun k => boxes_Check.j1 k b nx i b (b.length : Int) i (!own i (rd_T87 b i)) (rd_T87 b i).f0 (rd_T87 b i).f1 (rd_T87 b i).f2 (rd_T87 b i).f3 (rd_T87 b i).f4) (fun k => own_a k b nx i (by omega)) ?_
    by_cases c : own i (rd_T87 b i) = true
    · rw [c, cond_true]
      refine Ev.step (f := fun k => boxes_Check.l1 k b nx i i b (b.length : Int) i (rd_T87 b i).f3 ((rd_T87 b i).f3.length : Int) ((0 : Nat) : Int) (rd_T87 b i).f0 (rd_T87 b i).f1 (rd_T87 b i).f2 (rd_T87 b i).f3 (rd_T87 b i).f4) (fun k => ?_) ?_
      · show boxes_Check.j1 (k + 1) _ _ _ _ _ _ _ _ _ _ _ _ = _
        rw [boxes_Check.j1, if_neg (by simp)]
        rfl
      · have h1 := ih (i + 1) (wrap64 (nx + ((rd_T87 b i).f3.length : Int))) (by omega)
        have h2 := kids_a b nx i (by omega) (rd_T87 b i).f3 (hk _ hm) (rd_T87 b i).f0 (rd_T87 b i).f1 (rd_T87 b i).f2 (rd_T87 b i).f4 _ (by rw [hw]; exact h1) (rd_T87 b i).f3.length 0 i (by omega) (by omega)
        rw [List.drop_zero] at h2
        cases e : kidsOk b i i (rd_T87 b i).f3
        · rw [e] at h2
          exact h2
        · rw [e] at h2
          exact h2
    · simp only [Bool.not_eq_true] at c
      rw [c, cond_false]
      refine Ev.step (f := fun _ => some 3) (fun k => ?_) (Ev.now _)
      show boxes_Check.j1 (k + 1) _ _ _ _ _ _ _ _ _ _ _ _ = _
      rw [boxes_Check.j1, if_pos (show (!false) = true from rfl)]
theorem kids_b (b : List S87) (nx i : Int) (hi : 0 ≤ i) (ks : List Int) (hk : ks.length ≤ 9223372036854775807) (f0 f1 f2 : Int) (f4 : ByteArray) (R : Bool)
    (hR : Ev (fun k => clerestoryref3_BoxesCheck.l0 k b (wrap64 (nx + (ks.length : Int))) b (b.length : Int) (wrap64 (i + 1))) R) (d : Nat) : ∀ (j : Nat) (last : Int), j + d = ks.length → i ≤ last → (j = 0 → last = i) → (∀ q, j = q + 1 → last = rd ks q) →
    Ev (fun k => clerestoryref3_BoxesCheck.l1 k b nx i b (b.length : Int) i ks (ks.length : Int) (j : Int) f0 f1 f2 ks f4) (cond (kidsOk b i last (ks.drop j)) R false) := by
  induction d with
  | zero =>
    intro j last h hl hz hq
    obtain rfl : j = ks.length := by omega
    refine Ev.step (f := fun k => clerestoryref3_BoxesCheck.l0 k b (wrap64 (nx + (ks.length : Int))) b (b.length : Int) (wrap64 (i + 1))) (fun k => ?_) ?_
    · show clerestoryref3_BoxesCheck.l1 (k + 1) _ _ _ _ _ _ _ _ _ _ _ _ _ _ = _
      rw [clerestoryref3_BoxesCheck.l1, if_neg (by omega)]
    · rw [List.drop_length]
      exact hR
  | succ d ih =>
    intro j last h hl hz hq
    have hw : wrap64 ((j : Int) + 1) = ((j + 1 : Nat) : Int) := by unfold wrap64; omega
    rw [drop_rd ks j (by omega)]
    simp only [kidsOk]
    have hj : j = 0 ∨ ∃ q, j = q + 1 := by
      cases j with
      | zero => exact .inl rfl
      | succ q => exact .inr ⟨q, rfl⟩
    by_cases c0 : rd ks j ≤ i
    · rw [if_pos (show rd ks j ≤ last by omega)]
      refine Ev.step (f := fun _ => some false) (fun k => ?_) (Ev.now _)
      show clerestoryref3_BoxesCheck.l1 (k + 1) _ _ _ _ _ _ _ _ _ _ _ _ _ _ = _
      rw [clerestoryref3_BoxesCheck.l1, if_pos (by omega), if_pos (by omega), if_pos (by omega), if_pos c0]
    · by_cases c2 : rd ks j ≥ (b.length : Int)
      · have e : (if rd ks j ≤ last then false else if rd ks j ≥ (b.length : Int) then false else if (rd_T87 b (rd ks j)).f2 = i then kidsOk b i (rd ks j) (ks.drop (j + 1)) else false) = false := by
          rw [if_pos c2]
          split <;> rfl
        rw [e]
        refine Ev.step (f := fun _ => some false) (fun k => ?_) (Ev.now _)
        show clerestoryref3_BoxesCheck.l1 (k + 1) _ _ _ _ _ _ _ _ _ _ _ _ _ _ = _
        rw [clerestoryref3_BoxesCheck.l1, if_pos (by omega), if_pos (by omega), if_pos (by omega), if_neg c0, if_pos c2]
      · rcases hj with rfl | ⟨q, rfl⟩
        · rw [if_neg (show ¬ rd ks ((0 : Nat) : Int) ≤ last by have := hz rfl; omega), if_neg c2]
          by_cases c3 : (rd_T87 b (rd ks ((0 : Nat) : Int))).f2 = i
          · rw [if_pos c3]
            refine Ev.step (f := fun k => clerestoryref3_BoxesCheck.l1 k b nx i b (b.length : Int) i ks (ks.length : Int) ((0 + 1 : Nat) : Int) f0 f1 f2 ks f4) (fun k => ?_) (ih (0 + 1) _ (by omega) (by omega) (by omega) (fun q e => by obtain rfl : q = 0 := (by omega); rfl))
            show clerestoryref3_BoxesCheck.l1 (k + 1) _ _ _ _ _ _ _ _ _ _ _ _ _ _ = _
            rw [clerestoryref3_BoxesCheck.l1, if_pos (by omega), if_pos (by omega), if_pos (by omega), if_neg c0, if_neg c2, if_neg (by omega), if_pos (by omega), if_pos (by omega), if_pos c3, hw]
          · rw [if_neg c3]
            refine Ev.step (f := fun _ => some false) (fun k => ?_) (Ev.now _)
            show clerestoryref3_BoxesCheck.l1 (k + 1) _ _ _ _ _ _ _ _ _ _ _ _ _ _ = _
            rw [clerestoryref3_BoxesCheck.l1, if_pos (by omega), if_pos (by omega), if_pos (by omega), if_neg c0, if_neg c2, if_neg (by omega), if_pos (by omega), if_pos (by omega), if_neg c3]
        · have hlast := hq q rfl
          have hw2 : wrap64 (((q + 1 : Nat) : Int) - 1) = (q : Int) := by unfold wrap64; omega
          by_cases c1 : rd ks ((q + 1 : Nat) : Int) ≤ last
          · rw [if_pos c1]
            refine Ev.step (f := fun _ => some false) (fun k => ?_) (Ev.now _)
            show clerestoryref3_BoxesCheck.l1 (k + 1) _ _ _ _ _ _ _ _ _ _ _ _ _ _ = _
            rw [clerestoryref3_BoxesCheck.l1, if_pos (by omega), if_pos (by omega), if_pos (by omega), if_neg c0, if_neg c2, if_pos (by omega), hw2, if_pos (by omega), if_pos (by omega), if_pos (by omega)]
          · rw [if_neg c1, if_neg c2]
            by_cases c3 : (rd_T87 b (rd ks ((q + 1 : Nat) : Int))).f2 = i
            · rw [if_pos c3]
              refine Ev.step (f := fun k => clerestoryref3_BoxesCheck.l1 k b nx i b (b.length : Int) i ks (ks.length : Int) ((q + 1 + 1 : Nat) : Int) f0 f1 f2 ks f4) (fun k => ?_) (ih (q + 1 + 1) _ (by omega) (by omega) (by omega) (fun q' e => by obtain rfl : q' = q + 1 := (by omega); rfl))
              show clerestoryref3_BoxesCheck.l1 (k + 1) _ _ _ _ _ _ _ _ _ _ _ _ _ _ = _
              rw [clerestoryref3_BoxesCheck.l1, if_pos (by omega), if_pos (by omega), if_pos (by omega), if_neg c0, if_neg c2, if_pos (by omega), hw2, if_pos (by omega), if_pos (by omega), if_neg (by omega), if_pos (by omega), if_pos (by omega), if_pos c3, hw]
            · rw [if_neg c3]
              refine Ev.step (f := fun _ => some false) (fun k => ?_) (Ev.now _)
              show clerestoryref3_BoxesCheck.l1 (k + 1) _ _ _ _ _ _ _ _ _ _ _ _ _ _ = _
              rw [clerestoryref3_BoxesCheck.l1, if_pos (by omega), if_pos (by omega), if_pos (by omega), if_neg c0, if_neg c2, if_pos (by omega), hw2, if_pos (by omega), if_pos (by omega), if_neg (by omega), if_pos (by omega), if_pos (by omega), if_neg c3]
theorem own_b (k : Nat) (b : List S87) (nx : Int) (i : Nat) (hi : i < b.length) :
    clerestoryref3_BoxesCheck.l0 (k + 1) b nx b (b.length : Int) (i : Int) = clerestoryref3_BoxesCheck.j1 k b nx i b (b.length : Int) i (!own i (rd_T87 b i)) (rd_T87 b i).f0 (rd_T87 b i).f1 (rd_T87 b i).f2 (rd_T87 b i).f3 (rd_T87 b i).f4 := by
  rw [clerestoryref3_BoxesCheck.l0, if_pos (by omega), if_pos (by omega), if_pos (by omega)]
  unfold own
  by_cases c1 : (rd_T87 b i).f0 < 1
  · rw [if_pos c1, decide_eq_true c1]; rfl
  · rw [if_neg c1, decide_eq_false c1]
    by_cases c2 : (rd_T87 b i).f0 > 9
    · rw [if_pos c2, decide_eq_true c2]; rfl
    · rw [if_neg c2, decide_eq_false c2]
      by_cases c3 : (rd_T87 b i).f1 < -1
      · rw [if_pos c3, decide_eq_true c3]; rfl
      · rw [if_neg c3, decide_eq_false c3]
        by_cases c4 : (i : Int) = 0
        · rw [if_pos c4, decide_eq_true c4]; simp only [Bool.false_or, Bool.true_and, Bool.not_not]
        · rw [if_neg c4, decide_eq_false c4]; rfl
theorem chk_b (b : List S87) (hb : b.length ≤ 2199023255551) (hk : ∀ x ∈ b, x.f3.length ≤ 9223372036854775807) (d : Nat) : ∀ (i : Nat) (nx : Int), i + d = b.length →
    Ev (fun k => clerestoryref3_BoxesCheck.l0 k b nx b (b.length : Int) (i : Int)) (chk b i nx (b.drop i)) := by
  induction d with
  | zero =>
    intro i nx h
    obtain rfl : i = b.length := by omega
    refine Ev.step (f := fun _ => some (chk b b.length nx (b.drop b.length))) (fun k => ?_) (Ev.now _)
    show clerestoryref3_BoxesCheck.l0 (k + 1) _ _ _ _ _ = _
    rw [clerestoryref3_BoxesCheck.l0, if_neg (by omega), List.drop_length]
    simp only [chk]
    by_cases c : (b.length : Int) > 0
    · rw [if_pos c, if_neg (by omega)]
      rfl
    · rw [if_neg c, if_pos (by omega)]
  | succ d ih =>
    intro i nx h
    have hw : wrap64 ((i : Int) + 1) = ((i + 1 : Nat) : Int) := by unfold wrap64; omega
    have hm : rd_T87 b i ∈ b := by
      have : b.drop i = rd_T87 b i :: b.drop (i + 1) := drop_T b i (by omega)
      exact List.mem_of_mem_drop (by rw [this]; simp)
    rw [drop_T b i (by omega)]
    simp only [chk]
    refine Ev.step (f := fun k => clerestoryref3_BoxesCheck.j1 k b nx i b (b.length : Int) i (!own i (rd_T87 b i)) (rd_T87 b i).f0 (rd_T87 b i).f1 (rd_T87 b i).f2 (rd_T87 b i).f3 (rd_T87 b i).f4) (fun k => own_b k b nx i (by omega)) ?_
    by_cases c : own i (rd_T87 b i) = true
    · rw [c, cond_true]
      refine Ev.step (f := fun k => clerestoryref3_BoxesCheck.l1 k b nx i b (b.length : Int) i (rd_T87 b i).f3 ((rd_T87 b i).f3.length : Int) ((0 : Nat) : Int) (rd_T87 b i).f0 (rd_T87 b i).f1 (rd_T87 b i).f2 (rd_T87 b i).f3 (rd_T87 b i).f4) (fun k => ?_) ?_
      · show clerestoryref3_BoxesCheck.j1 (k + 1) _ _ _ _ _ _ _ _ _ _ _ _ = _
        rw [clerestoryref3_BoxesCheck.j1, if_neg (by simp)]
        rfl
      · have h1 := ih (i + 1) (wrap64 (nx + ((rd_T87 b i).f3.length : Int))) (by omega)
        have h2 := kids_b b nx i (by omega) (rd_T87 b i).f3 (hk _ hm) (rd_T87 b i).f0 (rd_T87 b i).f1 (rd_T87 b i).f2 (rd_T87 b i).f4 _ (by rw [hw]; exact h1) (rd_T87 b i).f3.length 0 i (by omega) (by omega) (fun _ => rfl) (fun q e => by omega)
        rw [List.drop_zero] at h2
        exact h2
    · simp only [Bool.not_eq_true] at c
      rw [c, cond_false]
      refine Ev.step (f := fun _ => some false) (fun k => ?_) (Ev.now _)
      show clerestoryref3_BoxesCheck.j1 (k + 1) _ _ _ _ _ _ _ _ _ _ _ _ = _
      rw [clerestoryref3_BoxesCheck.j1, if_pos (show (!false) = true from rfl)]
set_option maxHeartbeats 4000000 in
set_option maxRecDepth 100000 in
theorem BoxesChecks (b : List S87) (hb : b.length ≤ 2199023255551) (hk : ∀ x ∈ b, x.f3.length ≤ 9223372036854775807) (A : Option Addr) (cap : Nat) (w : World) (hr : Kd.C k87 w A b.length b) (hc : b.length ≤ cap) :
    Calls Try.prog 7 #[.slice A b.length cap] w fun e w' => e = .returned (.bool true) ∧ Below w.heap.size w w' := by
  obtain ⟨K1, h1⟩ := chk_a b hb hk b.length 0 0 (by omega)
  obtain ⟨K2, h2⟩ := chk_b b hb hk b.length 0 0 (by omega)
  have f1 : boxes_Check.f K1 b = some (cond (chk b 0 0 b) 0 3) := h1 K1 (Nat.le_refl _)
  have f2 : clerestoryref3_BoxesCheck.f K2 b = some (chk b 0 0 b) := h2 K2 (Nat.le_refl _)
  obtain ⟨c, hcc⟩ : ∃ c, chk b 0 0 b = c := ⟨_, rfl⟩
  rw [hcc] at f1 f2
  have HB := Aside0.mk (Below.refl w.heap.size w)
  have H1 : Aside0 (∀ W, Below w.heap.size w W → Calls Try.prog 30 #[.slice A b.length cap] W fun e w' => e = .returned (.int .i64 (cond c 0 3)) ∧ Below w.heap.size w w') := ⟨fun W hW => (boxes_Check.calls K1 A cap b _ W (Kd.C_below hr hW) hc f1).mono fun e w' h => ⟨h.1, below_step hW h.2⟩⟩
  have H2 : Aside0 (∀ W, Below w.heap.size w W → Calls Try.prog 31 #[.slice A b.length cap] W fun e w' => e = .returned (.bool c) ∧ Below w.heap.size w w') := ⟨fun W hW => (clerestoryref3_BoxesCheck.calls K2 A cap b _ W (Kd.C_below hr hW) hc f2).mono fun e w' h => ⟨h.1, below_step hW h.2⟩⟩
  clear h1 h2 f1 f2 hcc hr
  cases c
  all_goals
    simp only [cond_true, cond_false] at H1
    go_enter Try.func7, Try.ntmps7
    go_wp2_with (first
      | (go_at_call 29; (with_reducible refine (clerestorylaw3_boxed.calls true _ rfl).mono ?_); rintro e w1 ⟨rfl, hb⟩; clear HB; have HB := Aside0.mk hb; clear hb)
      | (go_at_call 30; (with_reducible refine (H1.out _ HB.out).mono ?_); rintro e w1 ⟨rfl, hb⟩; clear HB; have HB := Aside0.mk hb; clear hb)
      | (go_at_call 31; (with_reducible refine (H2.out _ HB.out).mono ?_); rintro e w1 ⟨rfl, hb⟩; clear HB; have HB := Aside0.mk hb; clear hb))
    go_ret
    exact ⟨rfl, HB.out⟩
theorem BoxesChecks.walk {H : Type} {enc : TypeId × Value → H} {spare : Nat → Bool} {held : Bool} {d : DataW H} {ps : List MemPlace} (a : Option Addr) (len cap : Nat) (W : World) (k0 : DataW.Trod enc Try.prog W 0 spare held 37 (.slice a len cap) d ps) (y0 : len * 64 ≤ 140737488351232) :
    Calls Try.prog 7 #[.slice a len cap] W fun e w' => e = .returned (.bool true) ∧ Below W.heap.size W w' := by
  obtain ⟨fuel, hf⟩ := k0
  obtain ⟨b, rfl, hc, hC, hQ, _⟩ := Open.open_boxes Try.underlying37 Try.underlying87 Try.underlying3 Try.underlying22 Try.underlying9 (by kernel_rfl) rfl (by kernel_rfl) (by kernel_rfl) (by simpa [Value.cells] using hf)
  exact BoxesChecks b (by omega) hQ a cap W hC hc
end Go.Proofs.Ytdmkofbndeicfaa.QBoxesChecks
