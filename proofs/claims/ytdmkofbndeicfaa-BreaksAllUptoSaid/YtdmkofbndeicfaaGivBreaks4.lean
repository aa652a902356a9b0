/- breaks.All, walked by hand: the walk. -/
import Derived.Test.YtdmkofbndeicfaaGivBreaks3
namespace Go.Proofs.Ytdmkofbndeicfaa.QBreaks
open Go.RowKit Go.Proofs.YtdmkofbndeicfaaW.PrintWords Go.Proofs.YtdmkofbndeicfaaW.PrintLast Go.Proofs.YtdmkofbndeicfaaW.PrintMore
set_option linter.unusedVariables false
set_option linter.unusedSimpArgs false
def breaks_All.f (s : ByteArray) (mode : Int) : Option (List S46) := if s.size ≤ 1048576 then some (allB (wrapsB mode) (keepsB mode) s) else none
set_option maxHeartbeats 8000000 in
set_option maxRecDepth 100000 in
theorem breaks_All.calls (a0 : ByteArray) (a1 : Int) (r : List S46) (w : World) (h : breaks_All.f a0 a1 = some r) :
    Calls Try.prog 37 #[.string a0, .int .i64 a1] w fun e w' => ∃ v0_ : Value, e = .returned v0_ ∧ Kd.R k46 46 w' w.heap.size (fun _ => True) v0_ r ∧ Below w.heap.size w w' := by
  unfold breaks_All.f at h
  by_cases hs : a0.size ≤ 1048576
  · rw [if_pos hs] at h
    obtain rfl := Option.some.inj h
    clear h
    have hm : a1 = 0 ∨ a1 = 1 ∨ a1 = 3 ∨ (a1 ≠ 0 ∧ a1 ≠ 1 ∧ a1 ≠ 3) := by omega
    have HB := Aside0.mk (Below.refl w.heap.size w)
    obtain ⟨W, hW⟩ : ∃ W, wrapsB a1 = W := ⟨_, rfl⟩
    obtain ⟨K, hK⟩ : ∃ K, keepsB a1 = K := ⟨_, rfl⟩
    rw [hW, hK]
    rcases hm with rfl | rfl | rfl | ⟨m0, m1, m3⟩
    · obtain rfl : W = true := by rw [← hW]; first | rfl | (unfold wrapsB; simp [m0, m3])
      obtain rfl : K = false := by rw [← hK]; first | rfl | (unfold keepsB; simp [m1, m3])
      clear hW hK
      go_enter Try.func37, Try.ntmps37
      go_wp2
      go_loopw [7, 8] (fun v l wr => ∃ (pos b : Nat) (last : Int) (out : List S46), l = .int .i32 last ∧ Aside0 (wr.heap[w.heap.size]? = some (.stringIter a0 pos)) ∧ Aside0 (Kd.R k46 46 wr (w.heap.size + 1) (fun _ => True) v out) ∧ Aside0 (Below w.heap.size w wr) ∧
        Aside0 (out ++ left true false a0 pos last (sig a0 b pos) = allB true false a0) ∧ Aside0 (a0.size ≤ pos + b) ∧ Aside0 (pos = 0 → last ≠ 10)) (fun _ _ wr => a0.size - wr.iterPos w.heap.size)
      case atStart => exact ⟨0, a0.size, 0, [], rfl, ⟨World.iter_heap w a0 0⟩, ⟨Kd.R_nil _ _ _ _ _⟩, ⟨below_alloc (Below.refl _ _) _⟩, ⟨rfl⟩, ⟨by omega⟩, ⟨fun _ => by decide⟩⟩
      case round =>
        obtain ⟨pos, b, last, out, rfl, HI, HO, HBr, HQ, HN, HZ⟩ := hrel
        have HLen : Aside0 (out.length ≤ 1048577) := ⟨by
          have h1 := congrArg List.length HQ.out
          have h2 : (allB true false a0).length ≤ a0.size + 1 := left_len true false a0 a0.size 0 0
          simp only [List.length_append] at h1
          omega⟩
        by_cases hp : pos < a0.size
        · have hnx : ∀ ty, (Instr.next (.pointer (some ⟨w.heap.size, 0, none⟩)) true ty).run Try.prog wr = _ := fun ty => Lib.run_next_any_at wr w.heap.size a0 pos ty HI.out hp
          have HI2 := Aside0.mk (Lib.iterAt_heap wr w.heap.size a0 pos (pos + (Utf8.decode a0 pos).2) HI.out)
          have HO2 := Aside0.mk (R_iter (s := a0) HO.out (show w.heap.size < w.heap.size + 1 by omega) (pos + (Utf8.decode a0 pos).2))
          have HB2 := Aside0.mk (Lib.below_iterAt HBr.out (Nat.le_refl _) a0 (pos + (Utf8.decode a0 pos).2))
          have HIL2 := Aside0.mk (blk_lt HI2.out)
          have HW := Aside0.mk (decode_pos a0 pos hp)
          obtain ⟨b, rfl⟩ : ∃ q, b = q + 1 := ⟨b - 1, by have := HN.out; omega⟩
          by_cases h0 : pos = 0
          · have h0b : decide ((0 : Int) < (pos : Int)) = false := decide_eq_false (by omega)
            have h0c : decide (0 < pos) = false := decide_eq_false (by omega)
            have HS : Aside0 (left true false a0 pos last (sig a0 (b + 1) pos) = left true false a0 (pos + (Utf8.decode a0 pos).2) ((Utf8.decode a0 pos).1 : Int) (sig a0 b (pos + (Utf8.decode a0 pos).2))) := ⟨by subst h0; exact left_first _ _ _ _ _ hp⟩
            clear h0
            go_wp2
            go_roundw
            case rel =>
              refine ⟨pos + (Utf8.decode a0 pos).2, b, ((Utf8.decode a0 pos).1 : Int), _, rfl, HI2, HO2, HB2, ⟨?_⟩, ⟨?_⟩, ⟨?_⟩⟩
              · rw [← HQ.out, HS.out]
              · have := HN.out; have := HW.out; omega
              · intro h; have := HW.out; omega
            case measure => rw [iterPos_of HI2.out, iterPos_of HI.out]; have := HW.out; omega
          · have h0b : decide ((0 : Int) < (pos : Int)) = true := decide_eq_true (by omega)
            have h0c : decide (0 < pos) = true := decide_eq_true (by omega)
            have HS := Aside0.mk (left_step true false a0 b pos last hp (by omega))
            have h10 : True := trivial
            obtain ⟨m, hm⟩ : ∃ m, mayB last ((Utf8.decode a0 pos).1 : Int) = m := ⟨_, rfl⟩
            have HC : Aside0 (∀ w, Calls Try.prog 65 #[.int .i32 last, .int .i32 ((Utf8.decode a0 pos).1 : Int)] w fun e w' => e = .returned (.bool m) ∧ Below w.heap.size w w') := ⟨fun w => hm ▸ may_calls last _ w⟩
            have HM := Aside0.mk hm
            clear hm
            cases m with
            | false =>
              go_wp2_with (go_at_call 65; (with_reducible refine (HC.out _).mono ?_); rintro e w3 ⟨rfl, hb⟩; have HI3 := Aside0.mk (blk_below HI2.out hb); have HO3 := Aside0.mk (Kd.R_below HO2.out hb); have HB3 := Aside0.mk (below_step HB2.out hb); clear hb)
              go_roundw
              case rel =>
                refine ⟨pos + (Utf8.decode a0 pos).2, b, ((Utf8.decode a0 pos).1 : Int), _, rfl, HI3, HO3, HB3, ⟨?_⟩, ⟨?_⟩, ⟨?_⟩⟩
                · rw [← HQ.out, HS.out]
                  rw [if_neg (by simp [h10]), if_neg (by simp [HM.out])]; rfl
                · have := HN.out; have := HW.out; omega
                · intro h; have := HW.out; omega
              case measure => rw [iterPos_of HI3.out, iterPos_of HI.out]; have := HW.out; omega
            | true =>
              go_wp2_with (first | (go_at_call 65; (with_reducible refine (HC.out _).mono ?_); rintro e w3 ⟨rfl, hb⟩; have HI3 := Aside0.mk (blk_below HI2.out hb); have HO3 := Aside0.mk (Kd.R_below HO2.out hb); have HB3 := Aside0.mk (below_step HB2.out hb); have HIL3 := Aside0.mk (blk_lt HI3.out); clear hb) | ((with_reducible refine gate_builtin (b := .append) (xs := #[.tmp 46, .tmp 50]) rfl ?_); at_builtin; refine Kd.R_append k46 (w.heap.size + 1) rfl (.tmp 46) (.tmp 50) 47 46 (.agg #[(.int .i64 0), (.bool false)]) 16 rfl Try.underlying47 info46 rfl (by decide) (by omega) u7 out (⟨(pos : Int), false⟩ : S46) [.int .i64 (pos : Int), .bool false] (fun _ => True) (fun _ => False) rfl rfl ?aP (fun _ hk => hk.elim) ?aF ?aO (Below.refl _ _) ?aS ?aL ?_; (case aP => exact k46_mkM _ _ _ (⟨(pos : Int), false⟩ : S46)); (case aF => exact (fun _ _ => trivial)); (case aO => exact HO3.out); (case aS => have := HIL3.out; omega); (case aL => have := HLen.out; omega); intro v4 w4 ho hb hg hat; have HO4 := Aside0.mk ho; have HI4 := Aside0.mk ((hb.block w.heap.size (by omega)).trans HI3.out); have HB4 := Aside0.mk (Below.trans HB3.out (hb.mono (by omega))); clear ho hb hg hat))
              go_roundw
              case rel =>
                refine ⟨pos + (Utf8.decode a0 pos).2, b, ((Utf8.decode a0 pos).1 : Int), _, rfl, HI4, HO4, HB4, ⟨?_⟩, ⟨?_⟩, ⟨?_⟩⟩
                · rw [← HQ.out, HS.out]
                  rw [if_neg (by simp [h10]), if_pos (by simp [HM.out]), List.append_assoc]
                · have := HN.out; have := HW.out; omega
                · intro h; have := HW.out; omega
              case measure => rw [iterPos_of HI4.out, iterPos_of HI.out]; have := HW.out; omega
        · have hnx : ∀ ty, (Instr.next (.pointer (some ⟨w.heap.size, 0, none⟩)) true ty).run Try.prog wr = _ := fun ty => Lib.run_next_end_at wr w.heap.size a0 pos ty HI.out hp
          have HIL := Aside0.mk (blk_lt HI.out)
          have HE := Aside0.mk (left_end true false a0 b pos last hp HZ.out)
          go_wp2
          go_ret
          refine ⟨_, rfl, ?_, HBr.out⟩
          have h1 := HQ.out
          rw [HE.out, if_neg (by simp), List.append_nil] at h1
          rw [← h1]
          exact Kd.R_lower HO.out (by omega)
    · obtain rfl : W = false := by rw [← hW]; first | rfl | (unfold wrapsB; simp [m0, m3])
      obtain rfl : K = true := by rw [← hK]; first | rfl | (unfold keepsB; simp [m1, m3])
      clear hW hK
      go_enter Try.func37, Try.ntmps37
      go_wp2
      go_loopw [7, 8] (fun v l wr => ∃ (pos b : Nat) (last : Int) (out : List S46), l = .int .i32 last ∧ Aside0 (wr.heap[w.heap.size]? = some (.stringIter a0 pos)) ∧ Aside0 (Kd.R k46 46 wr (w.heap.size + 1) (fun _ => True) v out) ∧ Aside0 (Below w.heap.size w wr) ∧
        Aside0 (out ++ left false true a0 pos last (sig a0 b pos) = allB false true a0) ∧ Aside0 (a0.size ≤ pos + b) ∧ Aside0 (pos = 0 → last ≠ 10)) (fun _ _ wr => a0.size - wr.iterPos w.heap.size)
      case atStart => exact ⟨0, a0.size, 0, [], rfl, ⟨World.iter_heap w a0 0⟩, ⟨Kd.R_nil _ _ _ _ _⟩, ⟨below_alloc (Below.refl _ _) _⟩, ⟨rfl⟩, ⟨by omega⟩, ⟨fun _ => by decide⟩⟩
      case round =>
        obtain ⟨pos, b, last, out, rfl, HI, HO, HBr, HQ, HN, HZ⟩ := hrel
        have HLen : Aside0 (out.length ≤ 1048577) := ⟨by
          have h1 := congrArg List.length HQ.out
          have h2 : (allB false true a0).length ≤ a0.size + 1 := left_len false true a0 a0.size 0 0
          simp only [List.length_append] at h1
          omega⟩
        by_cases hp : pos < a0.size
        · have hnx : ∀ ty, (Instr.next (.pointer (some ⟨w.heap.size, 0, none⟩)) true ty).run Try.prog wr = _ := fun ty => Lib.run_next_any_at wr w.heap.size a0 pos ty HI.out hp
          have HI2 := Aside0.mk (Lib.iterAt_heap wr w.heap.size a0 pos (pos + (Utf8.decode a0 pos).2) HI.out)
          have HO2 := Aside0.mk (R_iter (s := a0) HO.out (show w.heap.size < w.heap.size + 1 by omega) (pos + (Utf8.decode a0 pos).2))
          have HB2 := Aside0.mk (Lib.below_iterAt HBr.out (Nat.le_refl _) a0 (pos + (Utf8.decode a0 pos).2))
          have HIL2 := Aside0.mk (blk_lt HI2.out)
          have HW := Aside0.mk (decode_pos a0 pos hp)
          obtain ⟨b, rfl⟩ : ∃ q, b = q + 1 := ⟨b - 1, by have := HN.out; omega⟩
          by_cases h0 : pos = 0
          · have h0b : decide ((0 : Int) < (pos : Int)) = false := decide_eq_false (by omega)
            have h0c : decide (0 < pos) = false := decide_eq_false (by omega)
            have HS : Aside0 (left false true a0 pos last (sig a0 (b + 1) pos) = left false true a0 (pos + (Utf8.decode a0 pos).2) ((Utf8.decode a0 pos).1 : Int) (sig a0 b (pos + (Utf8.decode a0 pos).2))) := ⟨by subst h0; exact left_first _ _ _ _ _ hp⟩
            clear h0
            go_wp2
            go_roundw
            case rel =>
              refine ⟨pos + (Utf8.decode a0 pos).2, b, ((Utf8.decode a0 pos).1 : Int), _, rfl, HI2, HO2, HB2, ⟨?_⟩, ⟨?_⟩, ⟨?_⟩⟩
              · rw [← HQ.out, HS.out]
              · have := HN.out; have := HW.out; omega
              · intro h; have := HW.out; omega
            case measure => rw [iterPos_of HI2.out, iterPos_of HI.out]; have := HW.out; omega
          · have h0b : decide ((0 : Int) < (pos : Int)) = true := decide_eq_true (by omega)
            have h0c : decide (0 < pos) = true := decide_eq_true (by omega)
            have HS := Aside0.mk (left_step false true a0 b pos last hp (by omega))
            by_cases h10 : last = 10
            · subst h10
              go_wp2_with ((with_reducible refine gate_builtin (b := .append) (xs := #[.tmp 46, .tmp 50]) rfl ?_); at_builtin; refine Kd.R_append k46 (w.heap.size + 1) rfl (.tmp 46) (.tmp 50) 47 46 (.agg #[(.int .i64 0), (.bool false)]) 16 rfl Try.underlying47 info46 rfl (by decide) (by omega) u7 out (⟨(pos : Int), true⟩ : S46) [.int .i64 (pos : Int), .bool true] (fun _ => True) (fun _ => False) rfl rfl ?aP (fun _ hk => hk.elim) ?aF ?aO (Below.refl _ _) ?aS ?aL ?_; (case aP => exact k46_mkM _ _ _ (⟨(pos : Int), true⟩ : S46)); (case aF => exact (fun _ _ => trivial)); (case aO => exact HO2.out); (case aS => have := HIL2.out; omega); (case aL => have := HLen.out; omega); intro v4 w4 ho hb hg hat; have HO4 := Aside0.mk ho; have HI4 := Aside0.mk ((hb.block w.heap.size (by omega)).trans HI2.out); have HB4 := Aside0.mk (Below.trans HB2.out (hb.mono (by omega))); clear ho hb hg hat)
              go_roundw
              case rel =>
                refine ⟨pos + (Utf8.decode a0 pos).2, b, ((Utf8.decode a0 pos).1 : Int), _, rfl, HI4, HO4, HB4, ⟨?_⟩, ⟨?_⟩, ⟨?_⟩⟩
                · rw [← HQ.out, HS.out]
                  rw [if_pos (by simp), List.append_assoc]
                · have := HN.out; have := HW.out; omega
                · intro h; have := HW.out; omega
              case measure => rw [iterPos_of HI4.out, iterPos_of HI.out]; have := HW.out; omega
            · have h10b : (last == 10) = false := beq_eq_false_iff_ne.mpr h10
              go_wp2
              go_roundw
              case rel =>
                refine ⟨pos + (Utf8.decode a0 pos).2, b, ((Utf8.decode a0 pos).1 : Int), _, rfl, HI2, HO2, HB2, ⟨?_⟩, ⟨?_⟩, ⟨?_⟩⟩
                · rw [← HQ.out, HS.out]
                  rw [if_neg (by simp [h10]), if_neg (by simp)]; rfl
                · have := HN.out; have := HW.out; omega
                · intro h; have := HW.out; omega
              case measure => rw [iterPos_of HI2.out, iterPos_of HI.out]; have := HW.out; omega
        · have hnx : ∀ ty, (Instr.next (.pointer (some ⟨w.heap.size, 0, none⟩)) true ty).run Try.prog wr = _ := fun ty => Lib.run_next_end_at wr w.heap.size a0 pos ty HI.out hp
          have HIL := Aside0.mk (blk_lt HI.out)
          have HE := Aside0.mk (left_end false true a0 b pos last hp HZ.out)
          by_cases h10 : last = 10
          · subst h10
            go_wp2_with ((with_reducible refine gate_builtin (b := .append) (xs := #[.tmp 58, .tmp 62]) rfl ?_); at_builtin; refine Kd.R_append k46 (w.heap.size + 1) rfl (.tmp 58) (.tmp 62) 47 46 (.agg #[(.int .i64 0), (.bool false)]) 16 rfl Try.underlying47 info46 rfl (by decide) (by omega) u7 out (⟨(a0.size : Int), true⟩ : S46) [.int .i64 (a0.size : Int), .bool true] (fun _ => True) (fun _ => False) rfl rfl ?aP (fun _ hk => hk.elim) ?aF ?aO (Below.refl _ _) ?aS ?aL ?_; (case aP => exact k46_mkM _ _ _ (⟨(a0.size : Int), true⟩ : S46)); (case aF => exact (fun _ _ => trivial)); (case aO => exact HO.out); (case aS => have := HIL.out; omega); (case aL => have := HLen.out; omega); intro v4 w4 ho hb hg hat; have HO4 := Aside0.mk ho; have HI4 := Aside0.mk ((hb.block w.heap.size (by omega)).trans HI.out); have HB4 := Aside0.mk (Below.trans HBr.out (hb.mono (by omega))); clear ho hb hg hat)
            go_ret
            refine ⟨_, rfl, ?_, HB4.out⟩
            have h1 := HQ.out
            rw [HE.out, if_pos (by simp)] at h1
            rw [← h1]
            exact Kd.R_lower HO4.out (by omega)
          · have h10b : (last == 10) = false := beq_eq_false_iff_ne.mpr h10
            go_wp2
            go_ret
            refine ⟨_, rfl, ?_, HBr.out⟩
            have h1 := HQ.out
            rw [HE.out, if_neg (by simp [h10]), List.append_nil] at h1
            rw [← h1]
            exact Kd.R_lower HO.out (by omega)
    · obtain rfl : W = true := by rw [← hW]; first | rfl | (unfold wrapsB; simp [m0, m3])
      obtain rfl : K = true := by rw [← hK]; first | rfl | (unfold keepsB; simp [m1, m3])
      clear hW hK
      go_enter Try.func37, Try.ntmps37
      go_wp2
      go_loopw [7, 8] (fun v l wr => ∃ (pos b : Nat) (last : Int) (out : List S46), l = .int .i32 last ∧ Aside0 (wr.heap[w.heap.size]? = some (.stringIter a0 pos)) ∧ Aside0 (Kd.R k46 46 wr (w.heap.size + 1) (fun _ => True) v out) ∧ Aside0 (Below w.heap.size w wr) ∧
        Aside0 (out ++ left true true a0 pos last (sig a0 b pos) = allB true true a0) ∧ Aside0 (a0.size ≤ pos + b) ∧ Aside0 (pos = 0 → last ≠ 10)) (fun _ _ wr => a0.size - wr.iterPos w.heap.size)
      case atStart => exact ⟨0, a0.size, 0, [], rfl, ⟨World.iter_heap w a0 0⟩, ⟨Kd.R_nil _ _ _ _ _⟩, ⟨below_alloc (Below.refl _ _) _⟩, ⟨rfl⟩, ⟨by omega⟩, ⟨fun _ => by decide⟩⟩
      case round =>
        obtain ⟨pos, b, last, out, rfl, HI, HO, HBr, HQ, HN, HZ⟩ := hrel
        have HLen : Aside0 (out.length ≤ 1048577) := ⟨by
          have h1 := congrArg List.length HQ.out
          have h2 : (allB true true a0).length ≤ a0.size + 1 := left_len true true a0 a0.size 0 0
          simp only [List.length_append] at h1
          omega⟩
        by_cases hp : pos < a0.size
        · have hnx : ∀ ty, (Instr.next (.pointer (some ⟨w.heap.size, 0, none⟩)) true ty).run Try.prog wr = _ := fun ty => Lib.run_next_any_at wr w.heap.size a0 pos ty HI.out hp
          have HI2 := Aside0.mk (Lib.iterAt_heap wr w.heap.size a0 pos (pos + (Utf8.decode a0 pos).2) HI.out)
          have HO2 := Aside0.mk (R_iter (s := a0) HO.out (show w.heap.size < w.heap.size + 1 by omega) (pos + (Utf8.decode a0 pos).2))
          have HB2 := Aside0.mk (Lib.below_iterAt HBr.out (Nat.le_refl _) a0 (pos + (Utf8.decode a0 pos).2))
          have HIL2 := Aside0.mk (blk_lt HI2.out)
          have HW := Aside0.mk (decode_pos a0 pos hp)
          obtain ⟨b, rfl⟩ : ∃ q, b = q + 1 := ⟨b - 1, by have := HN.out; omega⟩
          by_cases h0 : pos = 0
          · have h0b : decide ((0 : Int) < (pos : Int)) = false := decide_eq_false (by omega)
            have h0c : decide (0 < pos) = false := decide_eq_false (by omega)
            have HS : Aside0 (left true true a0 pos last (sig a0 (b + 1) pos) = left true true a0 (pos + (Utf8.decode a0 pos).2) ((Utf8.decode a0 pos).1 : Int) (sig a0 b (pos + (Utf8.decode a0 pos).2))) := ⟨by subst h0; exact left_first _ _ _ _ _ hp⟩
            clear h0
            go_wp2
            go_roundw
            case rel =>
              refine ⟨pos + (Utf8.decode a0 pos).2, b, ((Utf8.decode a0 pos).1 : Int), _, rfl, HI2, HO2, HB2, ⟨?_⟩, ⟨?_⟩, ⟨?_⟩⟩
              · rw [← HQ.out, HS.out]
              · have := HN.out; have := HW.out; omega
              · intro h; have := HW.out; omega
            case measure => rw [iterPos_of HI2.out, iterPos_of HI.out]; have := HW.out; omega
          · have h0b : decide ((0 : Int) < (pos : Int)) = true := decide_eq_true (by omega)
            have h0c : decide (0 < pos) = true := decide_eq_true (by omega)
            have HS := Aside0.mk (left_step true true a0 b pos last hp (by omega))
            by_cases h10 : last = 10
            · subst h10
              go_wp2_with ((with_reducible refine gate_builtin (b := .append) (xs := #[.tmp 46, .tmp 50]) rfl ?_); at_builtin; refine Kd.R_append k46 (w.heap.size + 1) rfl (.tmp 46) (.tmp 50) 47 46 (.agg #[(.int .i64 0), (.bool false)]) 16 rfl Try.underlying47 info46 rfl (by decide) (by omega) u7 out (⟨(pos : Int), true⟩ : S46) [.int .i64 (pos : Int), .bool true] (fun _ => True) (fun _ => False) rfl rfl ?aP (fun _ hk => hk.elim) ?aF ?aO (Below.refl _ _) ?aS ?aL ?_; (case aP => exact k46_mkM _ _ _ (⟨(pos : Int), true⟩ : S46)); (case aF => exact (fun _ _ => trivial)); (case aO => exact HO2.out); (case aS => have := HIL2.out; omega); (case aL => have := HLen.out; omega); intro v4 w4 ho hb hg hat; have HO4 := Aside0.mk ho; have HI4 := Aside0.mk ((hb.block w.heap.size (by omega)).trans HI2.out); have HB4 := Aside0.mk (Below.trans HB2.out (hb.mono (by omega))); clear ho hb hg hat)
              go_roundw
              case rel =>
                refine ⟨pos + (Utf8.decode a0 pos).2, b, ((Utf8.decode a0 pos).1 : Int), _, rfl, HI4, HO4, HB4, ⟨?_⟩, ⟨?_⟩, ⟨?_⟩⟩
                · rw [← HQ.out, HS.out]
                  rw [if_pos (by simp), List.append_assoc]
                · have := HN.out; have := HW.out; omega
                · intro h; have := HW.out; omega
              case measure => rw [iterPos_of HI4.out, iterPos_of HI.out]; have := HW.out; omega
            · have h10b : (last == 10) = false := beq_eq_false_iff_ne.mpr h10
              obtain ⟨m, hm⟩ : ∃ m, mayB last ((Utf8.decode a0 pos).1 : Int) = m := ⟨_, rfl⟩
              have HC : Aside0 (∀ w, Calls Try.prog 65 #[.int .i32 last, .int .i32 ((Utf8.decode a0 pos).1 : Int)] w fun e w' => e = .returned (.bool m) ∧ Below w.heap.size w w') := ⟨fun w => hm ▸ may_calls last _ w⟩
              have HM := Aside0.mk hm
              clear hm
              cases m with
              | false =>
                go_wp2_with (go_at_call 65; (with_reducible refine (HC.out _).mono ?_); rintro e w3 ⟨rfl, hb⟩; have HI3 := Aside0.mk (blk_below HI2.out hb); have HO3 := Aside0.mk (Kd.R_below HO2.out hb); have HB3 := Aside0.mk (below_step HB2.out hb); clear hb)
                go_roundw
                case rel =>
                  refine ⟨pos + (Utf8.decode a0 pos).2, b, ((Utf8.decode a0 pos).1 : Int), _, rfl, HI3, HO3, HB3, ⟨?_⟩, ⟨?_⟩, ⟨?_⟩⟩
                  · rw [← HQ.out, HS.out]
                    rw [if_neg (by simp [h10]), if_neg (by simp [HM.out])]; rfl
                  · have := HN.out; have := HW.out; omega
                  · intro h; have := HW.out; omega
                case measure => rw [iterPos_of HI3.out, iterPos_of HI.out]; have := HW.out; omega
              | true =>
                go_wp2_with (first | (go_at_call 65; (with_reducible refine (HC.out _).mono ?_); rintro e w3 ⟨rfl, hb⟩; have HI3 := Aside0.mk (blk_below HI2.out hb); have HO3 := Aside0.mk (Kd.R_below HO2.out hb); have HB3 := Aside0.mk (below_step HB2.out hb); have HIL3 := Aside0.mk (blk_lt HI3.out); clear hb) | ((with_reducible refine gate_builtin (b := .append) (xs := #[.tmp 46, .tmp 50]) rfl ?_); at_builtin; refine Kd.R_append k46 (w.heap.size + 1) rfl (.tmp 46) (.tmp 50) 47 46 (.agg #[(.int .i64 0), (.bool false)]) 16 rfl Try.underlying47 info46 rfl (by decide) (by omega) u7 out (⟨(pos : Int), false⟩ : S46) [.int .i64 (pos : Int), .bool false] (fun _ => True) (fun _ => False) rfl rfl ?aP (fun _ hk => hk.elim) ?aF ?aO (Below.refl _ _) ?aS ?aL ?_; (case aP => exact k46_mkM _ _ _ (⟨(pos : Int), false⟩ : S46)); (case aF => exact (fun _ _ => trivial)); (case aO => exact HO3.out); (case aS => have := HIL3.out; omega); (case aL => have := HLen.out; omega); intro v4 w4 ho hb hg hat; have HO4 := Aside0.mk ho; have HI4 := Aside0.mk ((hb.block w.heap.size (by omega)).trans HI3.out); have HB4 := Aside0.mk (Below.trans HB3.out (hb.mono (by omega))); clear ho hb hg hat))
                go_roundw
                case rel =>
                  refine ⟨pos + (Utf8.decode a0 pos).2, b, ((Utf8.decode a0 pos).1 : Int), _, rfl, HI4, HO4, HB4, ⟨?_⟩, ⟨?_⟩, ⟨?_⟩⟩
                  · rw [← HQ.out, HS.out]
                    rw [if_neg (by simp [h10]), if_pos (by simp [HM.out]), List.append_assoc]
                  · have := HN.out; have := HW.out; omega
                  · intro h; have := HW.out; omega
                case measure => rw [iterPos_of HI4.out, iterPos_of HI.out]; have := HW.out; omega
        · have hnx : ∀ ty, (Instr.next (.pointer (some ⟨w.heap.size, 0, none⟩)) true ty).run Try.prog wr = _ := fun ty => Lib.run_next_end_at wr w.heap.size a0 pos ty HI.out hp
          have HIL := Aside0.mk (blk_lt HI.out)
          have HE := Aside0.mk (left_end true true a0 b pos last hp HZ.out)
          by_cases h10 : last = 10
          · subst h10
            go_wp2_with ((with_reducible refine gate_builtin (b := .append) (xs := #[.tmp 58, .tmp 62]) rfl ?_); at_builtin; refine Kd.R_append k46 (w.heap.size + 1) rfl (.tmp 58) (.tmp 62) 47 46 (.agg #[(.int .i64 0), (.bool false)]) 16 rfl Try.underlying47 info46 rfl (by decide) (by omega) u7 out (⟨(a0.size : Int), true⟩ : S46) [.int .i64 (a0.size : Int), .bool true] (fun _ => True) (fun _ => False) rfl rfl ?aP (fun _ hk => hk.elim) ?aF ?aO (Below.refl _ _) ?aS ?aL ?_; (case aP => exact k46_mkM _ _ _ (⟨(a0.size : Int), true⟩ : S46)); (case aF => exact (fun _ _ => trivial)); (case aO => exact HO.out); (case aS => have := HIL.out; omega); (case aL => have := HLen.out; omega); intro v4 w4 ho hb hg hat; have HO4 := Aside0.mk ho; have HI4 := Aside0.mk ((hb.block w.heap.size (by omega)).trans HI.out); have HB4 := Aside0.mk (Below.trans HBr.out (hb.mono (by omega))); clear ho hb hg hat)
            go_ret
            refine ⟨_, rfl, ?_, HB4.out⟩
            have h1 := HQ.out
            rw [HE.out, if_pos (by simp)] at h1
            rw [← h1]
            exact Kd.R_lower HO4.out (by omega)
          · have h10b : (last == 10) = false := beq_eq_false_iff_ne.mpr h10
            go_wp2
            go_ret
            refine ⟨_, rfl, ?_, HBr.out⟩
            have h1 := HQ.out
            rw [HE.out, if_neg (by simp [h10]), List.append_nil] at h1
            rw [← h1]
            exact Kd.R_lower HO.out (by omega)
    · obtain rfl : W = false := by rw [← hW]; first | rfl | (unfold wrapsB; simp [m0, m3])
      obtain rfl : K = false := by rw [← hK]; first | rfl | (unfold keepsB; simp [m1, m3])
      have m0b : (a1 == 0) = false := beq_eq_false_iff_ne.mpr m0
      have m1b : (a1 == 1) = false := beq_eq_false_iff_ne.mpr m1
      have m3b : (a1 == 3) = false := beq_eq_false_iff_ne.mpr m3
      clear hW hK
      go_enter Try.func37, Try.ntmps37
      go_wp2
      go_loopw [7, 8] (fun v l wr => ∃ (pos b : Nat) (last : Int) (out : List S46), l = .int .i32 last ∧ Aside0 (wr.heap[w.heap.size]? = some (.stringIter a0 pos)) ∧ Aside0 (Kd.R k46 46 wr (w.heap.size + 1) (fun _ => True) v out) ∧ Aside0 (Below w.heap.size w wr) ∧
        Aside0 (out ++ left false false a0 pos last (sig a0 b pos) = allB false false a0) ∧ Aside0 (a0.size ≤ pos + b) ∧ Aside0 (pos = 0 → last ≠ 10)) (fun _ _ wr => a0.size - wr.iterPos w.heap.size)
      case atStart => exact ⟨0, a0.size, 0, [], rfl, ⟨World.iter_heap w a0 0⟩, ⟨Kd.R_nil _ _ _ _ _⟩, ⟨below_alloc (Below.refl _ _) _⟩, ⟨rfl⟩, ⟨by omega⟩, ⟨fun _ => by decide⟩⟩
      case round =>
        obtain ⟨pos, b, last, out, rfl, HI, HO, HBr, HQ, HN, HZ⟩ := hrel
        have HLen : Aside0 (out.length ≤ 1048577) := ⟨by
          have h1 := congrArg List.length HQ.out
          have h2 : (allB false false a0).length ≤ a0.size + 1 := left_len false false a0 a0.size 0 0
          simp only [List.length_append] at h1
          omega⟩
        by_cases hp : pos < a0.size
        · have hnx : ∀ ty, (Instr.next (.pointer (some ⟨w.heap.size, 0, none⟩)) true ty).run Try.prog wr = _ := fun ty => Lib.run_next_any_at wr w.heap.size a0 pos ty HI.out hp
          have HI2 := Aside0.mk (Lib.iterAt_heap wr w.heap.size a0 pos (pos + (Utf8.decode a0 pos).2) HI.out)
          have HO2 := Aside0.mk (R_iter (s := a0) HO.out (show w.heap.size < w.heap.size + 1 by omega) (pos + (Utf8.decode a0 pos).2))
          have HB2 := Aside0.mk (Lib.below_iterAt HBr.out (Nat.le_refl _) a0 (pos + (Utf8.decode a0 pos).2))
          have HIL2 := Aside0.mk (blk_lt HI2.out)
          have HW := Aside0.mk (decode_pos a0 pos hp)
          obtain ⟨b, rfl⟩ : ∃ q, b = q + 1 := ⟨b - 1, by have := HN.out; omega⟩
          by_cases h0 : pos = 0
          · have h0b : decide ((0 : Int) < (pos : Int)) = false := decide_eq_false (by omega)
            have h0c : decide (0 < pos) = false := decide_eq_false (by omega)
            have HS : Aside0 (left false false a0 pos last (sig a0 (b + 1) pos) = left false false a0 (pos + (Utf8.decode a0 pos).2) ((Utf8.decode a0 pos).1 : Int) (sig a0 b (pos + (Utf8.decode a0 pos).2))) := ⟨by subst h0; exact left_first _ _ _ _ _ hp⟩
            clear h0
            go_wp2
            go_roundw
            case rel =>
              refine ⟨pos + (Utf8.decode a0 pos).2, b, ((Utf8.decode a0 pos).1 : Int), _, rfl, HI2, HO2, HB2, ⟨?_⟩, ⟨?_⟩, ⟨?_⟩⟩
              · rw [← HQ.out, HS.out]
              · have := HN.out; have := HW.out; omega
              · intro h; have := HW.out; omega
            case measure => rw [iterPos_of HI2.out, iterPos_of HI.out]; have := HW.out; omega
          · have h0b : decide ((0 : Int) < (pos : Int)) = true := decide_eq_true (by omega)
            have h0c : decide (0 < pos) = true := decide_eq_true (by omega)
            have HS := Aside0.mk (left_step false false a0 b pos last hp (by omega))
            have h10 : True := trivial
            go_wp2
            go_roundw
            case rel =>
              refine ⟨pos + (Utf8.decode a0 pos).2, b, ((Utf8.decode a0 pos).1 : Int), _, rfl, HI2, HO2, HB2, ⟨?_⟩, ⟨?_⟩, ⟨?_⟩⟩
              · rw [← HQ.out, HS.out]
                rw [if_neg (by simp [h10]), if_neg (by simp)]; rfl
              · have := HN.out; have := HW.out; omega
              · intro h; have := HW.out; omega
            case measure => rw [iterPos_of HI2.out, iterPos_of HI.out]; have := HW.out; omega
        · have hnx : ∀ ty, (Instr.next (.pointer (some ⟨w.heap.size, 0, none⟩)) true ty).run Try.prog wr = _ := fun ty => Lib.run_next_end_at wr w.heap.size a0 pos ty HI.out hp
          have HIL := Aside0.mk (blk_lt HI.out)
          have HE := Aside0.mk (left_end false false a0 b pos last hp HZ.out)
          go_wp2
          go_ret
          refine ⟨_, rfl, ?_, HBr.out⟩
          have h1 := HQ.out
          rw [HE.out, if_neg (by simp), List.append_nil] at h1
          rw [← h1]
          exact Kd.R_lower HO.out (by omega)
  · rw [if_neg hs] at h
    cases h
end Go.Proofs.Ytdmkofbndeicfaa.QBreaks
