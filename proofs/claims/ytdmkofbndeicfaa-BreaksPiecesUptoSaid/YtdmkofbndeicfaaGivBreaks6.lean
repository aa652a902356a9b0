/- The reference's Breaks, walked by hand: the signs of a text, collected. -/
import Derived.Test.YtdmkofbndeicfaaGivBreaks4
namespace Go.Proofs.Ytdmkofbndeicfaa.QBreaks
open Go.RowKit Go.Proofs.YtdmkofbndeicfaaW.PrintWords Go.Proofs.YtdmkofbndeicfaaW.PrintLast Go.Proofs.YtdmkofbndeicfaaW.PrintMore
set_option linter.unusedVariables false
set_option linter.unusedSimpArgs false
/-- A sign with its place: the place first. -/
def k92 : Kd (Int × Int) := Kd.iso (Kd.pair (Kd.int .i32) (Kd.int .i64)) (fun x : Int × Int => (x.2, x.1))
theorem k92_open {w : World} {x : Int × Int} {cs : List Value} (h : k92.K w x cs) : cs = [.int .i32 x.2, .int .i64 x.1] := by
  obtain ⟨_, _, rfl, rfl, rfl⟩ := h
  exact rfl
theorem k92_mkM (w : World) (base : Nat) (ok : Nat → Prop) (x : Int × Int)  : k92.M w base ok x [.int .i32 x.2, .int .i64 x.1] := ⟨[.int .i32 x.2], [.int .i64 x.1], rfl, rfl, rfl⟩
def rdP (xs : List (Int × Int)) (i : Nat) : Int × Int := xs.getD i (0, 0)
theorem at_T92 {w : World} {A : Option Addr} {n : Nat} {xs : List (Int × Int)} (h : Kd.C k92 w A n xs) (i : Nat) (h1 : i < n) : ∃ ad , A = some ad ∧ w.cell? (ad.add (i * 2)) = some (.int .i32 (rdP xs i).2) ∧ w.cell? ⟨(ad.add (i * 2)).block, (ad.add (i * 2)).off + 1, none⟩ = some (.int .i64 (rdP xs i).1) := by
  obtain ⟨ad, c, e, _, hK, hc0⟩ := Kd.C_get h (0, 0) (i : Int) (by omega) (by omega)
  have hc : ∀ j u, c[j]? = some u → w.cell? (ad.add (i * 2 + j)) = some u := by
    intro j u hu
    have := hc0 j u hu
    have e : k92.sz = 2 := rfl
    simpa [e] using this
  obtain rfl := k92_open hK
  exact ⟨ad, e, hc 0 _ rfl, by rw [← add_field _ _ 1 (by omega)]; exact hc 1 _ rfl⟩
theorem info92 : (Try.prog.info? 92).map (fun i => (i.zero, i.size, i.bytes)) = some (some (.agg #[(.int .i32 0), (.int .i64 0)]), 2, 16) := by kernel_rfl
def clerestoryref3_Breaks.f (s : ByteArray) (mode : Int) : Option (List S46) := if s.size ≤ 1048576 then some (allB (wrapsB mode) (keepsB mode) s) else none
/-- The places behind sign i, out of the whole list. -/
def from_ (W K : Bool) (n : Int) (l : List (Int × Int)) (i : Nat) : List S46 :=
  match l.drop i with
  | [] => []
  | x :: r => brk W K n x.2 r
theorem drop_P (l : List (Int × Int)) (k : Nat) (h : k < l.length) : l.drop k = rdP l k :: l.drop (k + 1) := by
  have e : rdP l k = l[k] := by simp [rdP, List.getD, h]
  rw [e]; exact List.drop_eq_getElem_cons h
theorem from_step (W K : Bool) (n : Int) (l : List (Int × Int)) (k : Nat) (h : k + 1 < l.length) :
    from_ W K n l k = (if K = true ∧ (rdP l k).2 = 10 then [(⟨(rdP l (k + 1)).1, true⟩ : S46)] else if W = true ∧ mayB (rdP l k).2 (rdP l (k + 1)).2 = true then [⟨(rdP l (k + 1)).1, false⟩] else []) ++ from_ W K n l (k + 1) := by
  unfold from_
  rw [drop_P l k (by omega), drop_P l (k + 1) h]
  simp only [brk]
theorem from_last (W K : Bool) (n : Int) (l : List (Int × Int)) (k : Nat) (h : k + 1 = l.length) :
    from_ W K n l k = (if K = true ∧ (rdP l k).2 = 10 then [(⟨n, true⟩ : S46)] else []) ++ from_ W K n l (k + 1) := by
  unfold from_
  rw [drop_P l k (by omega), h, List.drop_length]
  simp only [brk, List.append_nil]
theorem from_zero (W K : Bool) (s : ByteArray) : from_ W K s.size (sig s s.size 0) 0 = allB W K s := by
  unfold from_ allB left
  simp only [List.drop_zero, if_true]
  split <;> rename_i e <;> rw [e]
theorem from_end (W K : Bool) (n : Int) (l : List (Int × Int)) : from_ W K n l l.length = [] := by
  unfold from_
  rw [List.drop_length]
theorem from_len (W K : Bool) (n : Int) (l : List (Int × Int)) (k : Nat) : (from_ W K n l k).length ≤ l.length := by
  unfold from_
  split
  · simp
  · rename_i x r e
    have h := congrArg List.length e
    have := brk_len W K n r x.2
    simp only [List.length_drop, List.length_cons] at h
    omega
set_option maxHeartbeats 1000000 in
theorem keeps_calls (a0 : Int) (w : World) : Calls Try.prog 60 #[.int .i64 a0] w fun e w' => e = .returned (.bool (keepsB a0)) ∧ Below w.heap.size w w' := by
  have HB := Aside0.mk (Below.refl w.heap.size w)
  obtain ⟨K, hK⟩ : ∃ K, keepsB a0 = K := ⟨_, rfl⟩
  rw [hK]
  by_cases c1 : a0 = 1
  · subst c1
    obtain rfl : K = true := by rw [← hK]; rfl
    go_enter Try.func60, Try.ntmps60
    go_wp2
    go_ret
    exact ⟨rfl, HB.out⟩
  · by_cases c3 : a0 = 3
    · subst c3
      obtain rfl : K = true := by rw [← hK]; rfl
      go_enter Try.func60, Try.ntmps60
      go_wp2
      go_ret
      exact ⟨rfl, HB.out⟩
    · obtain rfl : K = false := by rw [← hK]; simp [keepsB, c1, c3]
      have c1b : (a0 == 1) = false := beq_eq_false_iff_ne.mpr c1
      have c3b : (a0 == 3) = false := beq_eq_false_iff_ne.mpr c3
      clear c1 c3 hK
      go_enter Try.func60, Try.ntmps60
      go_wp2
      go_ret
      exact ⟨rfl, HB.out⟩
set_option maxHeartbeats 8000000 in
set_option maxRecDepth 100000 in
theorem clerestoryref3_Breaks.calls (a0 : ByteArray) (a1 : Int) (r : List S46) (w : World) (h : clerestoryref3_Breaks.f a0 a1 = some r) :
    Calls Try.prog 38 #[.string a0, .int .i64 a1] w fun e w' => ∃ v0_ : Value, e = .returned v0_ ∧ Kd.R k46 46 w' w.heap.size (fun _ => True) v0_ r ∧ Below w.heap.size w w' := by
  unfold clerestoryref3_Breaks.f at h
  by_cases hs : a0.size ≤ 1048576
  · rw [if_pos hs] at h
    obtain rfl := Option.some.inj h
    clear h
    obtain ⟨W, hW⟩ : ∃ W, wrapsB a1 = W := ⟨_, rfl⟩
    obtain ⟨K, hK⟩ : ∃ K, keepsB a1 = K := ⟨_, rfl⟩
    have HK : Aside0 (∀ w, Calls Try.prog 60 #[.int .i64 a1] w fun e w' => e = .returned (.bool K) ∧ Below w.heap.size w w') := ⟨fun w => hK ▸ keeps_calls a1 w⟩
    have hm : a1 = 0 ∨ a1 = 1 ∨ a1 = 3 ∨ (a1 ≠ 0 ∧ a1 ≠ 1 ∧ a1 ≠ 3) := by omega
    have HW_ := Aside0.mk hW
    have HK_ := Aside0.mk hK
    rw [hW, hK]
    clear hW hK
    have HB := Aside0.mk (Below.refl w.heap.size w)
    obtain ⟨L, hL⟩ : ∃ L, sig a0 a0.size 0 = L := ⟨_, rfl⟩
    have HL := Aside0.mk hL
    have HLL : Aside0 (L.length ≤ 1048576) := ⟨by rw [← hL]; have := sig_len a0 a0.size 0; omega⟩
    clear hL
    go_enter Try.func38, Try.ntmps38
    go_wp2
    go_loopw [5] (fun v wr => ∃ (pos b : Nat) (out : List (Int × Int)), Aside0 (wr.heap[w.heap.size]? = some (.stringIter a0 pos)) ∧ Aside0 (Kd.R k92 92 wr (w.heap.size + 1) (fun _ => True) v out) ∧ Aside0 (Below w.heap.size w wr) ∧
        Aside0 (out ++ sig a0 b pos = L) ∧ Aside0 (a0.size ≤ pos + b)) (fun _ wr => a0.size - wr.iterPos w.heap.size)
    case atStart => exact ⟨0, a0.size, [], ⟨World.iter_heap w a0 0⟩, ⟨Kd.R_nil _ _ _ _ _⟩, ⟨below_alloc (Below.refl _ _) _⟩, HL, ⟨by omega⟩⟩
    case round =>
      obtain ⟨pos, b, out, HI, HO, HBr, HQ, HN⟩ := hrel
      have HLen : Aside0 (out.length ≤ 1048577) := ⟨by
        have h1 := congrArg List.length HQ.out
        have h2 := HLL.out
        simp only [List.length_append] at h1
        omega⟩
      by_cases hp : pos < a0.size
      · have hnx : ∀ ty, (Instr.next (.pointer (some ⟨w.heap.size, 0, none⟩)) true ty).run Try.prog wr = _ := fun ty => Lib.run_next_any_at wr w.heap.size a0 pos ty HI.out hp
        have HI2 := Aside0.mk (Lib.iterAt_heap wr w.heap.size a0 pos (pos + (Utf8.decode a0 pos).2) HI.out)
        have HO2 := Aside0.mk (R_iter (s := a0) HO.out (show w.heap.size < w.heap.size + 1 by omega) (pos + (Utf8.decode a0 pos).2))
        have HB2 := Aside0.mk (Lib.below_iterAt HBr.out (Nat.le_refl _) a0 (pos + (Utf8.decode a0 pos).2))
        have HIL2 := Aside0.mk (blk_lt HI2.out)
        have HW := Aside0.mk (decode_pos a0 pos hp)
        obtain ⟨b, rfl⟩ : ∃ q, b = q + 1 := ⟨b - 1, by have := HN.out; omega⟩
        go_wp2_with ((with_reducible refine gate_builtin (b := .append) (xs := #[.tmp 22, .tmp 26]) rfl ?_); at_builtin; refine Kd.R_append k92 (w.heap.size + 1) rfl (.tmp 22) (.tmp 26) 90 92 (.agg #[(.int .i32 0), (.int .i64 0)]) 16 rfl Try.underlying90 info92 rfl (by decide) (by omega) u5 out ((pos : Int), ((Utf8.decode a0 pos).1 : Int)) [.int .i32 ((Utf8.decode a0 pos).1 : Int), .int .i64 (pos : Int)] (fun _ => True) (fun _ => False) rfl rfl ?aP (fun _ hk => hk.elim) ?aF ?aO (Below.refl _ _) ?aS ?aL ?_; (case aP => exact k92_mkM _ _ _ ((pos : Int), ((Utf8.decode a0 pos).1 : Int))); (case aF => exact (fun _ _ => trivial)); (case aO => exact HO2.out); (case aS => have := HIL2.out; omega); (case aL => have := HLen.out; omega); intro v4 w4 ho hb hg hat; have HO4 := Aside0.mk ho; have HI4 := Aside0.mk ((hb.block w.heap.size (by omega)).trans HI2.out); have HB4 := Aside0.mk (Below.trans HB2.out (hb.mono (by omega))); clear ho hb hg hat)
        go_roundw
        case rel =>
          refine ⟨pos + (Utf8.decode a0 pos).2, b, _, HI4, HO4, HB4, ⟨?_⟩, ⟨?_⟩⟩
          · rw [← HQ.out, List.append_assoc]
            simp only [sig, if_pos hp]
            rfl
          · have := HN.out; have := HW.out; omega
        case measure => rw [iterPos_of HI4.out, iterPos_of HI.out]; have := HW.out; omega
      · have hnx : ∀ ty, (Instr.next (.pointer (some ⟨w.heap.size, 0, none⟩)) true ty).run Try.prog wr = _ := fun ty => Lib.run_next_end_at wr w.heap.size a0 pos ty HI.out hp
        have HIL := Aside0.mk (blk_lt HI.out)
        obtain rfl : out = L := by
          have h1 := HQ.out
          have e : sig a0 b pos = [] := by
            cases b with
            | zero => rfl
            | succ b => simp only [sig]; rw [if_neg hp]
          rw [e, List.append_nil] at h1
          exact h1
        obtain ⟨A5, c5, e5, hc5, HR5⟩ := Kd.R_reads HO.out
        subst e5
        replace HR5 := Aside0.mk HR5
        clear HQ HN
        have hlen5 : (out.length : Int) ≤ 1048576 := by have := HLL.out; omega
        go_wp2
        go_loopw [10, 30] (fun v i wq => ∃ (k : Nat) (out2 : List S46), k ≤ out.length ∧ i = .int .i64 k ∧ Aside0 (Kd.R k92 92 wq (w.heap.size + 1) (fun _ => True) (.slice A5 out.length c5) out) ∧ Aside0 (Kd.R k46 46 wq (w.heap.size + 1) (fun _ => True) v out2) ∧ Aside0 (Below w.heap.size w wq) ∧
          Aside0 (out2 ++ from_ W K a0.size out k = allB W K a0)) (fun _ i _ => out.length - (intOf i).toNat)
        case atStart => exact ⟨0, [], Nat.zero_le _, rfl, HO, ⟨Kd.R_nil _ _ _ _ _⟩, HBr, ⟨by rw [List.nil_append, ← HL.out]; exact from_zero W K a0⟩⟩
        case round =>
          obtain ⟨k, out2, hk, rfl, HP, HQ, HBq, HE⟩ := hrel
          have HLo : Aside0 (out2.length ≤ 1048577) := ⟨by have h1 := congrArg List.length HE.out; have h2 : (allB W K a0).length ≤ a0.size + 1 := left_len W K a0 a0.size 0 0; simp only [List.length_append] at h1; omega⟩
          by_cases hlt : k < out.length
          · obtain ⟨ad, e5, hx0, hx1⟩ := at_T92 (Kd.R_reads' HP.out).2.2 k hlt
            cases e5
            obtain ⟨xr, hxr⟩ : ∃ q, (rdP out k).2 = q := ⟨_, rfl⟩
            obtain ⟨xa, hxa⟩ : ∃ q, (rdP out k).1 = q := ⟨_, rfl⟩
            rw [hxr] at hx0
            rw [hxa] at hx1
            clear hxa
            have HSz : Aside0 (w.heap.size + 1 ≤ wr.heap.size) := ⟨by obtain ⟨g, cap, _, hg1, hg2, _⟩ := Kd.R_form HP.out (by omega); omega⟩
            rcases hm with rfl | rfl | rfl | ⟨m0, m1, m3⟩
            · obtain rfl : W = true := by rw [← HW_.out]; first | rfl | (unfold wrapsB; simp [m0, m3])
              obtain rfl : K = false := by rw [← HK_.out]; first | rfl | (unfold keepsB; simp [m1, m3])
              by_cases hend : k + 1 = out.length
              · have HS := Aside0.mk (from_last true false a0.size out k hend)
                have hendb : ((k : Int) + 1 == (out.length : Int)) = true := beq_iff_eq.mpr (by omega)
                rw [hxr] at HS
                clear hend
                have h10 : True := trivial
                have HN10 := Aside0.mk h10
                clear h10
                go_wp2_with (go_at_call 60; (with_reducible refine (HK.out _).mono ?_); rintro e w3 ⟨rfl, hb⟩; have n0_ := Aside0.mk (blk_below (blk_new wr _) hb); have n2_ := Aside0.mk (Kd.R_below (Kd.R_alloc HP.out _) hb); have n3_ := Aside0.mk (Kd.R_below (Kd.R_alloc HQ.out _) hb); have n4_ := Aside0.mk (below_step (below_alloc HBq.out _) hb); have n5_ := Aside0.mk (below_step (below_alloc (Below.refl _ _) _) hb); have HX := n0_; have HPc := n2_; have HQc := n3_; have HBc := n4_; have hX0 := (blk_cell HX.out 0).trans rfl; have hX1 := (blk_cell HX.out 1).trans rfl; have hXs := blk_lt HX.out; clear hb n0_ n2_ n3_ n4_ n5_)
                go_roundw
                case rel =>
                  refine ⟨k + 1, _, by omega, by go_num, ⟨by first | exact HPc.out | exact Kd.R_alloc HPc.out _⟩, ⟨by first | exact HQc.out | exact Kd.R_alloc HQc.out _⟩, ⟨by first | exact HBc.out | exact below_alloc HBc.out _⟩, ⟨?_⟩⟩
                  rw [← HE.out, HS.out, if_neg (by simp [HN10.out])]
                  rfl
                case measure => simp [intOf]; omega
              · have HS := Aside0.mk (from_step true false a0.size out k (by omega))
                obtain ⟨ad2, e6, hy0, hy1⟩ := at_T92 (Kd.R_reads' HP.out).2.2 (k + 1) (by omega)
                cases e6
                have hendb : ((k : Int) + 1 == (out.length : Int)) = false := beq_eq_false_iff_ne.mpr (by omega)
                obtain ⟨yr, hyr⟩ : ∃ q, (rdP out (k + 1)).2 = q := ⟨_, rfl⟩
                obtain ⟨ya, hya⟩ : ∃ q, (rdP out (k + 1)).1 = q := ⟨_, rfl⟩
                rw [hyr] at hy0
                rw [hya] at hy1
                rw [hxr, hyr, hya] at HS
                clear hyr hya
                have h10 : True := trivial
                have HN10 := Aside0.mk h10
                by_cases c1 : xr = 32
                · by_cases c2 : yr = 32
                  · have HN2 := Aside0.mk c2
                    have x32 : (xr == 32) = true := by first | (simp; omega) | simp
                    have y32 : (yr != 32) = false := by first | (simp; omega) | simp
                    have x45 : (xr == 45) = false := by first | (simp; omega) | simp
                    have xf : decide (4352 ≤ xr) = false := by first | (simp; omega) | simp
                    have yf : decide (4352 ≤ yr) = false := by first | (simp; omega) | simp
                    have HM : Aside0 (mayB xr yr = false) := ⟨by unfold mayB; rw [if_pos c1]; simp [c2]⟩
                    (try clear h10); (try clear c1); (try clear c2); (try clear c3); (try clear c4)
                    go_wp2_with (first | (go_at_call 60; (with_reducible refine (HK.out _).mono ?_); rintro e w3 ⟨rfl, hb⟩; have n0_ := Aside0.mk (blk_below (blk_new wr _) hb); have n2_ := Aside0.mk (Kd.R_below (Kd.R_alloc HP.out _) hb); have n3_ := Aside0.mk (Kd.R_below (Kd.R_alloc HQ.out _) hb); have n4_ := Aside0.mk (below_step (below_alloc HBq.out _) hb); have n5_ := Aside0.mk (below_step (below_alloc (Below.refl _ _) _) hb); have HX := n0_; have HPc := n2_; have HQc := n3_; have HBc := n4_; have hX0 := (blk_cell HX.out 0).trans rfl; have hX1 := (blk_cell HX.out 1).trans rfl; have hXs := blk_lt HX.out; have hy0c := (n5_.out.cell (World.block_lt_of_cell? wr _ hy0)).trans hy0; have hy1c := (n5_.out.cell (World.block_lt_of_cell? wr _ hy1)).trans hy1; clear hb n0_ n2_ n3_ n4_ n5_))
                    go_roundw
                    case rel =>
                      refine ⟨k + 1, _, by omega, by go_num, ⟨by first | exact HPc.out | exact Kd.R_alloc HPc.out _⟩, ⟨by first | exact HQc.out | exact Kd.R_alloc HQc.out _⟩, ⟨by first | exact HBc.out | exact below_alloc HBc.out _⟩, ⟨?_⟩⟩
                      rw [← HE.out, HS.out, if_neg (by simp [HN10.out]), if_neg (by simp [HM.out])]
                      rfl
                    case measure => simp [intOf]; omega
                  · have HN2 := Aside0.mk c2
                    have x32 : (xr == 32) = true := by first | (simp; omega) | simp
                    have y32 : (yr != 32) = true := by first | (simp; omega) | simp
                    have HM : Aside0 (mayB xr yr = true) := ⟨by unfold mayB; rw [if_pos c1]; simp [c2]⟩
                    (try clear h10); (try clear c1); (try clear c2); (try clear c3); (try clear c4)
                    go_wp2_with (first | (go_at_call 60; (with_reducible refine (HK.out _).mono ?_); rintro e w3 ⟨rfl, hb⟩; have n0_ := Aside0.mk (blk_below (blk_new wr _) hb); have n2_ := Aside0.mk (Kd.R_below (Kd.R_alloc HP.out _) hb); have n3_ := Aside0.mk (Kd.R_below (Kd.R_alloc HQ.out _) hb); have n4_ := Aside0.mk (below_step (below_alloc HBq.out _) hb); have n5_ := Aside0.mk (below_step (below_alloc (Below.refl _ _) _) hb); have HX := n0_; have HPc := n2_; have HQc := n3_; have HBc := n4_; have hX0 := (blk_cell HX.out 0).trans rfl; have hX1 := (blk_cell HX.out 1).trans rfl; have hXs := blk_lt HX.out; have hy0c := (n5_.out.cell (World.block_lt_of_cell? wr _ hy0)).trans hy0; have hy1c := (n5_.out.cell (World.block_lt_of_cell? wr _ hy1)).trans hy1; clear hb n0_ n2_ n3_ n4_ n5_) | ((with_reducible refine gate_builtin (b := .append) (xs := #[.tmp 112, .tmp 117]) rfl ?_); at_builtin; refine Kd.R_append k46 (w.heap.size + 1) rfl (.tmp 112) (.tmp 117) 47 46 (.agg #[(.int .i64 0), (.bool false)]) 16 rfl Try.underlying47 info46 rfl (by decide) (by omega) u10 out2 (⟨ya, false⟩ : S46) [.int .i64 ya, .bool false] (fun _ => True) (fun _ => False) rfl ?aX ?aP (fun _ hk => hk.elim) ?aF ?aO (Below.refl _ _) ?aS ?aL ?_; (case aX => first | rfl | (go_simp; done) | (go_simp; rfl)); (case aP => exact k46_mkM _ _ _ (⟨ya, false⟩ : S46)); (case aF => exact (fun _ _ => trivial)); (case aO => exact (by first | exact HQc.out | exact Kd.R_alloc HQc.out _)); (case aS => have h1 := HSz.out; have h2 := HBc.out.size; have h3 := blk_lt HX.out; (try simp only [World.size_alloc]); omega); (case aL => have := HLo.out; omega); intro v6 w6 ho hb hg hat; have HQ6 := Aside0.mk ho; have HP6 := Aside0.mk (Kd.R_over (by first | exact HPc.out | exact Kd.R_alloc HPc.out _) (by first | exact HQc.out | exact Kd.R_alloc HQc.out _) (by decide) hg); have HB6 := Aside0.mk (Below.trans (by first | exact HBc.out | exact below_alloc HBc.out _) (hb.mono (by omega))); clear ho hb hg hat))
                    go_roundw
                    case rel =>
                      refine ⟨k + 1, _, by omega, by go_num, HP6, HQ6, HB6, ⟨?_⟩⟩
                      rw [← HE.out, HS.out, if_neg (by simp [HN10.out]), if_pos (by simp [HM.out]), List.append_assoc]
                    case measure => simp [intOf]; omega
                · by_cases c2 : xr = 45
                  · cases hl : let0 yr with
                    | true =>
                      have HLT : Aside0 (∀ w, Calls Try.prog 66 #[.int .i32 yr] w fun e w' => e = .returned (.bool true) ∧ Below w.heap.size w w') := ⟨fun w => hl ▸ let_calls 66 (.inr rfl) yr w⟩
                      have x32 : (xr == 32) = false := by first | (simp; omega) | simp
                      have x45 : (xr == 45) = true := by first | (simp; omega) | simp
                      have HM : Aside0 (mayB xr yr = true) := ⟨by unfold mayB; rw [if_neg c1, if_pos c2]; exact hl⟩
                      (try clear h10); (try clear c1); (try clear c2); (try clear c3); (try clear c4)
                      go_wp2_with (first | (go_at_call 60; (with_reducible refine (HK.out _).mono ?_); rintro e w3 ⟨rfl, hb⟩; have n0_ := Aside0.mk (blk_below (blk_new wr _) hb); have n2_ := Aside0.mk (Kd.R_below (Kd.R_alloc HP.out _) hb); have n3_ := Aside0.mk (Kd.R_below (Kd.R_alloc HQ.out _) hb); have n4_ := Aside0.mk (below_step (below_alloc HBq.out _) hb); have n5_ := Aside0.mk (below_step (below_alloc (Below.refl _ _) _) hb); have HX := n0_; have HPc := n2_; have HQc := n3_; have HBc := n4_; have hX0 := (blk_cell HX.out 0).trans rfl; have hX1 := (blk_cell HX.out 1).trans rfl; have hXs := blk_lt HX.out; have hy0c := (n5_.out.cell (World.block_lt_of_cell? wr _ hy0)).trans hy0; have hy1c := (n5_.out.cell (World.block_lt_of_cell? wr _ hy1)).trans hy1; clear hb n0_ n2_ n3_ n4_ n5_) | (go_at_call 66; (with_reducible refine (HLT.out _).mono ?_); rintro e w4 ⟨rfl, hb⟩; have n0_ := Aside0.mk (blk_below (by first | exact HX.out | exact blk_alloc HX.out _) hb); have n1_ := Aside0.mk (blk_below (by first | exact HY.out | exact blk_new _ _) hb); have n2_ := Aside0.mk (Kd.R_below (by first | exact HPc.out | exact Kd.R_alloc HPc.out _) hb); have n3_ := Aside0.mk (Kd.R_below (by first | exact HQc.out | exact Kd.R_alloc HQc.out _) hb); have n4_ := Aside0.mk (below_step (by first | exact HBc.out | exact below_alloc HBc.out _) hb); clear HX HPc HQc HBc; (try clear HY); have HX := n0_; have HY := n1_; have HPc := n2_; have HQc := n3_; have HBc := n4_; have hX0 := (blk_cell HX.out 0).trans rfl; have hX1 := (blk_cell HX.out 1).trans rfl; have hY0 := (blk_cell HY.out 0).trans rfl; have hY1 := (blk_cell HY.out 1).trans rfl; clear hb n0_ n1_ n2_ n3_ n4_) | ((with_reducible refine gate_builtin (b := .append) (xs := #[.tmp 112, .tmp 117]) rfl ?_); at_builtin; refine Kd.R_append k46 (w.heap.size + 1) rfl (.tmp 112) (.tmp 117) 47 46 (.agg #[(.int .i64 0), (.bool false)]) 16 rfl Try.underlying47 info46 rfl (by decide) (by omega) u10 out2 (⟨ya, false⟩ : S46) [.int .i64 ya, .bool false] (fun _ => True) (fun _ => False) rfl ?aX ?aP (fun _ hk => hk.elim) ?aF ?aO (Below.refl _ _) ?aS ?aL ?_; (case aX => first | rfl | (go_simp; done) | (go_simp; rfl)); (case aP => exact k46_mkM _ _ _ (⟨ya, false⟩ : S46)); (case aF => exact (fun _ _ => trivial)); (case aO => exact (by first | exact HQc.out | exact Kd.R_alloc HQc.out _)); (case aS => have h1 := HSz.out; have h2 := HBc.out.size; have h3 := blk_lt HX.out; (try simp only [World.size_alloc]); omega); (case aL => have := HLo.out; omega); intro v6 w6 ho hb hg hat; have HQ6 := Aside0.mk ho; have HP6 := Aside0.mk (Kd.R_over (by first | exact HPc.out | exact Kd.R_alloc HPc.out _) (by first | exact HQc.out | exact Kd.R_alloc HQc.out _) (by decide) hg); have HB6 := Aside0.mk (Below.trans (by first | exact HBc.out | exact below_alloc HBc.out _) (hb.mono (by omega))); clear ho hb hg hat))
                      go_roundw
                      case rel =>
                        refine ⟨k + 1, _, by omega, by go_num, HP6, HQ6, HB6, ⟨?_⟩⟩
                        rw [← HE.out, HS.out, if_neg (by simp [HN10.out]), if_pos (by simp [HM.out]), List.append_assoc]
                      case measure => simp [intOf]; omega
                    | false =>
                      have HLT : Aside0 (∀ w, Calls Try.prog 66 #[.int .i32 yr] w fun e w' => e = .returned (.bool false) ∧ Below w.heap.size w w') := ⟨fun w => hl ▸ let_calls 66 (.inr rfl) yr w⟩
                      by_cases c3 : yr ≥ 4352
                      · have HN2 := Aside0.mk c3
                        have HPL : Aside0 (∀ w, Calls Try.prog 67 #[.int .i32 xr] w fun e w' => e = .returned (.bool false) ∧ Below w.heap.size w w') := ⟨fun w => (show oth xr = false from (by unfold oth; rw [if_neg c1, if_pos c2])) ▸ plain_calls xr w⟩
                        have x32 : (xr == 32) = false := by first | (simp; omega) | simp
                        have x45 : (xr == 45) = true := by first | (simp; omega) | simp
                        have xf : decide (4352 ≤ xr) = false := by first | (simp; omega) | simp
                        have yf : decide (4352 ≤ yr) = true := by first | (simp; omega) | simp
                        have HM : Aside0 (mayB xr yr = false) := ⟨by unfold mayB; rw [if_neg c1, if_pos c2]; exact hl⟩
                        (try clear h10); (try clear c1); (try clear c2); (try clear c3); (try clear c4)
                        go_wp2_with (first | (go_at_call 60; (with_reducible refine (HK.out _).mono ?_); rintro e w3 ⟨rfl, hb⟩; have n0_ := Aside0.mk (blk_below (blk_new wr _) hb); have n2_ := Aside0.mk (Kd.R_below (Kd.R_alloc HP.out _) hb); have n3_ := Aside0.mk (Kd.R_below (Kd.R_alloc HQ.out _) hb); have n4_ := Aside0.mk (below_step (below_alloc HBq.out _) hb); have n5_ := Aside0.mk (below_step (below_alloc (Below.refl _ _) _) hb); have HX := n0_; have HPc := n2_; have HQc := n3_; have HBc := n4_; have hX0 := (blk_cell HX.out 0).trans rfl; have hX1 := (blk_cell HX.out 1).trans rfl; have hXs := blk_lt HX.out; have hy0c := (n5_.out.cell (World.block_lt_of_cell? wr _ hy0)).trans hy0; have hy1c := (n5_.out.cell (World.block_lt_of_cell? wr _ hy1)).trans hy1; clear hb n0_ n2_ n3_ n4_ n5_) | (go_at_call 66; (with_reducible refine (HLT.out _).mono ?_); rintro e w4 ⟨rfl, hb⟩; have n0_ := Aside0.mk (blk_below (by first | exact HX.out | exact blk_alloc HX.out _) hb); have n1_ := Aside0.mk (blk_below (by first | exact HY.out | exact blk_new _ _) hb); have n2_ := Aside0.mk (Kd.R_below (by first | exact HPc.out | exact Kd.R_alloc HPc.out _) hb); have n3_ := Aside0.mk (Kd.R_below (by first | exact HQc.out | exact Kd.R_alloc HQc.out _) hb); have n4_ := Aside0.mk (below_step (by first | exact HBc.out | exact below_alloc HBc.out _) hb); clear HX HPc HQc HBc; (try clear HY); have HX := n0_; have HY := n1_; have HPc := n2_; have HQc := n3_; have HBc := n4_; have hX0 := (blk_cell HX.out 0).trans rfl; have hX1 := (blk_cell HX.out 1).trans rfl; have hY0 := (blk_cell HY.out 0).trans rfl; have hY1 := (blk_cell HY.out 1).trans rfl; clear hb n0_ n1_ n2_ n3_ n4_) | (go_at_call 67; (with_reducible refine (HPL.out _).mono ?_); rintro e w5 ⟨rfl, hb⟩; have n0_ := Aside0.mk (blk_below (by first | exact HX.out | exact blk_alloc HX.out _) hb); have n1_ := Aside0.mk (blk_below (by first | exact HY.out | exact blk_new _ _) hb); have n2_ := Aside0.mk (Kd.R_below (by first | exact HPc.out | exact Kd.R_alloc HPc.out _) hb); have n3_ := Aside0.mk (Kd.R_below (by first | exact HQc.out | exact Kd.R_alloc HQc.out _) hb); have n4_ := Aside0.mk (below_step (by first | exact HBc.out | exact below_alloc HBc.out _) hb); clear HX HPc HQc HBc; (try clear HY); have HX := n0_; have HY := n1_; have HPc := n2_; have HQc := n3_; have HBc := n4_; have hX0 := (blk_cell HX.out 0).trans rfl; have hX1 := (blk_cell HX.out 1).trans rfl; have hY0 := (blk_cell HY.out 0).trans rfl; have hY1 := (blk_cell HY.out 1).trans rfl; clear hb n0_ n1_ n2_ n3_ n4_))
                        go_roundw
                        case rel =>
                          refine ⟨k + 1, _, by omega, by go_num, ⟨by first | exact HPc.out | exact Kd.R_alloc HPc.out _⟩, ⟨by first | exact HQc.out | exact Kd.R_alloc HQc.out _⟩, ⟨by first | exact HBc.out | exact below_alloc HBc.out _⟩, ⟨?_⟩⟩
                          rw [← HE.out, HS.out, if_neg (by simp [HN10.out]), if_neg (by simp [HM.out])]
                          rfl
                        case measure => simp [intOf]; omega
                      · have HN2 := Aside0.mk c3
                        have x32 : (xr == 32) = false := by first | (simp; omega) | simp
                        have x45 : (xr == 45) = true := by first | (simp; omega) | simp
                        have xf : decide (4352 ≤ xr) = false := by first | (simp; omega) | simp
                        have yf : decide (4352 ≤ yr) = false := by first | (simp; omega) | simp
                        have HM : Aside0 (mayB xr yr = false) := ⟨by unfold mayB; rw [if_neg c1, if_pos c2]; exact hl⟩
                        (try clear h10); (try clear c1); (try clear c2); (try clear c3); (try clear c4)
                        go_wp2_with (first | (go_at_call 60; (with_reducible refine (HK.out _).mono ?_); rintro e w3 ⟨rfl, hb⟩; have n0_ := Aside0.mk (blk_below (blk_new wr _) hb); have n2_ := Aside0.mk (Kd.R_below (Kd.R_alloc HP.out _) hb); have n3_ := Aside0.mk (Kd.R_below (Kd.R_alloc HQ.out _) hb); have n4_ := Aside0.mk (below_step (below_alloc HBq.out _) hb); have n5_ := Aside0.mk (below_step (below_alloc (Below.refl _ _) _) hb); have HX := n0_; have HPc := n2_; have HQc := n3_; have HBc := n4_; have hX0 := (blk_cell HX.out 0).trans rfl; have hX1 := (blk_cell HX.out 1).trans rfl; have hXs := blk_lt HX.out; have hy0c := (n5_.out.cell (World.block_lt_of_cell? wr _ hy0)).trans hy0; have hy1c := (n5_.out.cell (World.block_lt_of_cell? wr _ hy1)).trans hy1; clear hb n0_ n2_ n3_ n4_ n5_) | (go_at_call 66; (with_reducible refine (HLT.out _).mono ?_); rintro e w4 ⟨rfl, hb⟩; have n0_ := Aside0.mk (blk_below (by first | exact HX.out | exact blk_alloc HX.out _) hb); have n1_ := Aside0.mk (blk_below (by first | exact HY.out | exact blk_new _ _) hb); have n2_ := Aside0.mk (Kd.R_below (by first | exact HPc.out | exact Kd.R_alloc HPc.out _) hb); have n3_ := Aside0.mk (Kd.R_below (by first | exact HQc.out | exact Kd.R_alloc HQc.out _) hb); have n4_ := Aside0.mk (below_step (by first | exact HBc.out | exact below_alloc HBc.out _) hb); clear HX HPc HQc HBc; (try clear HY); have HX := n0_; have HY := n1_; have HPc := n2_; have HQc := n3_; have HBc := n4_; have hX0 := (blk_cell HX.out 0).trans rfl; have hX1 := (blk_cell HX.out 1).trans rfl; have hY0 := (blk_cell HY.out 0).trans rfl; have hY1 := (blk_cell HY.out 1).trans rfl; clear hb n0_ n1_ n2_ n3_ n4_))
                        go_roundw
                        case rel =>
                          refine ⟨k + 1, _, by omega, by go_num, ⟨by first | exact HPc.out | exact Kd.R_alloc HPc.out _⟩, ⟨by first | exact HQc.out | exact Kd.R_alloc HQc.out _⟩, ⟨by first | exact HBc.out | exact below_alloc HBc.out _⟩, ⟨?_⟩⟩
                          rw [← HE.out, HS.out, if_neg (by simp [HN10.out]), if_neg (by simp [HM.out])]
                          rfl
                        case measure => simp [intOf]; omega
                  · by_cases c3 : xr ≥ 4352
                    · cases hl : oth yr with
                      | true =>
                        have HPL : Aside0 (∀ w, Calls Try.prog 67 #[.int .i32 yr] w fun e w' => e = .returned (.bool true) ∧ Below w.heap.size w w') := ⟨fun w => (show oth yr = true from hl) ▸ plain_calls yr w⟩
                        have x32 : (xr == 32) = false := by first | (simp; omega) | simp
                        have x45 : (xr == 45) = false := by first | (simp; omega) | simp
                        have xf : decide (4352 ≤ xr) = true := by first | (simp; omega) | simp
                        have HM : Aside0 (mayB xr yr = true) := ⟨by unfold mayB wid; rw [if_neg c1, if_neg c2, if_pos ⟨c3, hl⟩]⟩
                        (try clear h10); (try clear c1); (try clear c2); (try clear c3); (try clear c4)
                        go_wp2_with (first | (go_at_call 60; (with_reducible refine (HK.out _).mono ?_); rintro e w3 ⟨rfl, hb⟩; have n0_ := Aside0.mk (blk_below (blk_new wr _) hb); have n2_ := Aside0.mk (Kd.R_below (Kd.R_alloc HP.out _) hb); have n3_ := Aside0.mk (Kd.R_below (Kd.R_alloc HQ.out _) hb); have n4_ := Aside0.mk (below_step (below_alloc HBq.out _) hb); have n5_ := Aside0.mk (below_step (below_alloc (Below.refl _ _) _) hb); have HX := n0_; have HPc := n2_; have HQc := n3_; have HBc := n4_; have hX0 := (blk_cell HX.out 0).trans rfl; have hX1 := (blk_cell HX.out 1).trans rfl; have hXs := blk_lt HX.out; have hy0c := (n5_.out.cell (World.block_lt_of_cell? wr _ hy0)).trans hy0; have hy1c := (n5_.out.cell (World.block_lt_of_cell? wr _ hy1)).trans hy1; clear hb n0_ n2_ n3_ n4_ n5_) | (go_at_call 67; (with_reducible refine (HPL.out _).mono ?_); rintro e w5 ⟨rfl, hb⟩; have n0_ := Aside0.mk (blk_below (by first | exact HX.out | exact blk_alloc HX.out _) hb); have n1_ := Aside0.mk (blk_below (by first | exact HY.out | exact blk_new _ _) hb); have n2_ := Aside0.mk (Kd.R_below (by first | exact HPc.out | exact Kd.R_alloc HPc.out _) hb); have n3_ := Aside0.mk (Kd.R_below (by first | exact HQc.out | exact Kd.R_alloc HQc.out _) hb); have n4_ := Aside0.mk (below_step (by first | exact HBc.out | exact below_alloc HBc.out _) hb); clear HX HPc HQc HBc; (try clear HY); have HX := n0_; have HY := n1_; have HPc := n2_; have HQc := n3_; have HBc := n4_; have hX0 := (blk_cell HX.out 0).trans rfl; have hX1 := (blk_cell HX.out 1).trans rfl; have hY0 := (blk_cell HY.out 0).trans rfl; have hY1 := (blk_cell HY.out 1).trans rfl; clear hb n0_ n1_ n2_ n3_ n4_) | ((with_reducible refine gate_builtin (b := .append) (xs := #[.tmp 112, .tmp 117]) rfl ?_); at_builtin; refine Kd.R_append k46 (w.heap.size + 1) rfl (.tmp 112) (.tmp 117) 47 46 (.agg #[(.int .i64 0), (.bool false)]) 16 rfl Try.underlying47 info46 rfl (by decide) (by omega) u10 out2 (⟨ya, false⟩ : S46) [.int .i64 ya, .bool false] (fun _ => True) (fun _ => False) rfl ?aX ?aP (fun _ hk => hk.elim) ?aF ?aO (Below.refl _ _) ?aS ?aL ?_; (case aX => first | rfl | (go_simp; done) | (go_simp; rfl)); (case aP => exact k46_mkM _ _ _ (⟨ya, false⟩ : S46)); (case aF => exact (fun _ _ => trivial)); (case aO => exact (by first | exact HQc.out | exact Kd.R_alloc HQc.out _)); (case aS => have h1 := HSz.out; have h2 := HBc.out.size; have h3 := blk_lt HX.out; (try simp only [World.size_alloc]); omega); (case aL => have := HLo.out; omega); intro v6 w6 ho hb hg hat; have HQ6 := Aside0.mk ho; have HP6 := Aside0.mk (Kd.R_over (by first | exact HPc.out | exact Kd.R_alloc HPc.out _) (by first | exact HQc.out | exact Kd.R_alloc HQc.out _) (by decide) hg); have HB6 := Aside0.mk (Below.trans (by first | exact HBc.out | exact below_alloc HBc.out _) (hb.mono (by omega))); clear ho hb hg hat))
                        go_roundw
                        case rel =>
                          refine ⟨k + 1, _, by omega, by go_num, HP6, HQ6, HB6, ⟨?_⟩⟩
                          rw [← HE.out, HS.out, if_neg (by simp [HN10.out]), if_pos (by simp [HM.out]), List.append_assoc]
                        case measure => simp [intOf]; omega
                      | false =>
                        have c4 : ¬ yr ≥ 4352 := by intro h; unfold oth at hl; rw [if_neg (by omega), if_neg (by omega), if_neg (by omega)] at hl; cases hl
                        have HPL : Aside0 (∀ w, Calls Try.prog 67 #[.int .i32 yr] w fun e w' => e = .returned (.bool false) ∧ Below w.heap.size w w') := ⟨fun w => (show oth yr = false from hl) ▸ plain_calls yr w⟩
                        have x32 : (xr == 32) = false := by first | (simp; omega) | simp
                        have x45 : (xr == 45) = false := by first | (simp; omega) | simp
                        have xf : decide (4352 ≤ xr) = true := by first | (simp; omega) | simp
                        have yf : decide (4352 ≤ yr) = false := by first | (simp; omega) | simp
                        have HM : Aside0 (mayB xr yr = false) := ⟨by unfold mayB wid; rw [if_neg c1, if_neg c2, if_neg (by simp [hl]), if_neg c4]⟩
                        (try clear h10); (try clear c1); (try clear c2); (try clear c3); (try clear c4)
                        go_wp2_with (first | (go_at_call 60; (with_reducible refine (HK.out _).mono ?_); rintro e w3 ⟨rfl, hb⟩; have n0_ := Aside0.mk (blk_below (blk_new wr _) hb); have n2_ := Aside0.mk (Kd.R_below (Kd.R_alloc HP.out _) hb); have n3_ := Aside0.mk (Kd.R_below (Kd.R_alloc HQ.out _) hb); have n4_ := Aside0.mk (below_step (below_alloc HBq.out _) hb); have n5_ := Aside0.mk (below_step (below_alloc (Below.refl _ _) _) hb); have HX := n0_; have HPc := n2_; have HQc := n3_; have HBc := n4_; have hX0 := (blk_cell HX.out 0).trans rfl; have hX1 := (blk_cell HX.out 1).trans rfl; have hXs := blk_lt HX.out; have hy0c := (n5_.out.cell (World.block_lt_of_cell? wr _ hy0)).trans hy0; have hy1c := (n5_.out.cell (World.block_lt_of_cell? wr _ hy1)).trans hy1; clear hb n0_ n2_ n3_ n4_ n5_) | (go_at_call 67; (with_reducible refine (HPL.out _).mono ?_); rintro e w5 ⟨rfl, hb⟩; have n0_ := Aside0.mk (blk_below (by first | exact HX.out | exact blk_alloc HX.out _) hb); have n1_ := Aside0.mk (blk_below (by first | exact HY.out | exact blk_new _ _) hb); have n2_ := Aside0.mk (Kd.R_below (by first | exact HPc.out | exact Kd.R_alloc HPc.out _) hb); have n3_ := Aside0.mk (Kd.R_below (by first | exact HQc.out | exact Kd.R_alloc HQc.out _) hb); have n4_ := Aside0.mk (below_step (by first | exact HBc.out | exact below_alloc HBc.out _) hb); clear HX HPc HQc HBc; (try clear HY); have HX := n0_; have HY := n1_; have HPc := n2_; have HQc := n3_; have HBc := n4_; have hX0 := (blk_cell HX.out 0).trans rfl; have hX1 := (blk_cell HX.out 1).trans rfl; have hY0 := (blk_cell HY.out 0).trans rfl; have hY1 := (blk_cell HY.out 1).trans rfl; clear hb n0_ n1_ n2_ n3_ n4_))
                        go_roundw
                        case rel =>
                          refine ⟨k + 1, _, by omega, by go_num, ⟨by first | exact HPc.out | exact Kd.R_alloc HPc.out _⟩, ⟨by first | exact HQc.out | exact Kd.R_alloc HQc.out _⟩, ⟨by first | exact HBc.out | exact below_alloc HBc.out _⟩, ⟨?_⟩⟩
                          rw [← HE.out, HS.out, if_neg (by simp [HN10.out]), if_neg (by simp [HM.out])]
                          rfl
                        case measure => simp [intOf]; omega
                    · by_cases c4 : yr ≥ 4352
                      · cases hl : oth xr with
                        | true =>
                          have HPL : Aside0 (∀ w, Calls Try.prog 67 #[.int .i32 xr] w fun e w' => e = .returned (.bool true) ∧ Below w.heap.size w w') := ⟨fun w => (show oth xr = true from hl) ▸ plain_calls xr w⟩
                          have x32 : (xr == 32) = false := by first | (simp; omega) | simp
                          have x45 : (xr == 45) = false := by first | (simp; omega) | simp
                          have xf : decide (4352 ≤ xr) = false := by first | (simp; omega) | simp
                          have yf : decide (4352 ≤ yr) = true := by first | (simp; omega) | simp
                          have HM : Aside0 (mayB xr yr = true) := ⟨by unfold mayB wid; rw [if_neg c1, if_neg c2, if_neg (by omega), if_pos c4]; exact hl⟩
                          (try clear h10); (try clear c1); (try clear c2); (try clear c3); (try clear c4)
                          go_wp2_with (first | (go_at_call 60; (with_reducible refine (HK.out _).mono ?_); rintro e w3 ⟨rfl, hb⟩; have n0_ := Aside0.mk (blk_below (blk_new wr _) hb); have n2_ := Aside0.mk (Kd.R_below (Kd.R_alloc HP.out _) hb); have n3_ := Aside0.mk (Kd.R_below (Kd.R_alloc HQ.out _) hb); have n4_ := Aside0.mk (below_step (below_alloc HBq.out _) hb); have n5_ := Aside0.mk (below_step (below_alloc (Below.refl _ _) _) hb); have HX := n0_; have HPc := n2_; have HQc := n3_; have HBc := n4_; have hX0 := (blk_cell HX.out 0).trans rfl; have hX1 := (blk_cell HX.out 1).trans rfl; have hXs := blk_lt HX.out; have hy0c := (n5_.out.cell (World.block_lt_of_cell? wr _ hy0)).trans hy0; have hy1c := (n5_.out.cell (World.block_lt_of_cell? wr _ hy1)).trans hy1; clear hb n0_ n2_ n3_ n4_ n5_) | (go_at_call 67; (with_reducible refine (HPL.out _).mono ?_); rintro e w5 ⟨rfl, hb⟩; have n0_ := Aside0.mk (blk_below (by first | exact HX.out | exact blk_alloc HX.out _) hb); have n1_ := Aside0.mk (blk_below (by first | exact HY.out | exact blk_new _ _) hb); have n2_ := Aside0.mk (Kd.R_below (by first | exact HPc.out | exact Kd.R_alloc HPc.out _) hb); have n3_ := Aside0.mk (Kd.R_below (by first | exact HQc.out | exact Kd.R_alloc HQc.out _) hb); have n4_ := Aside0.mk (below_step (by first | exact HBc.out | exact below_alloc HBc.out _) hb); clear HX HPc HQc HBc; (try clear HY); have HX := n0_; have HY := n1_; have HPc := n2_; have HQc := n3_; have HBc := n4_; have hX0 := (blk_cell HX.out 0).trans rfl; have hX1 := (blk_cell HX.out 1).trans rfl; have hY0 := (blk_cell HY.out 0).trans rfl; have hY1 := (blk_cell HY.out 1).trans rfl; clear hb n0_ n1_ n2_ n3_ n4_) | ((with_reducible refine gate_builtin (b := .append) (xs := #[.tmp 112, .tmp 117]) rfl ?_); at_builtin; refine Kd.R_append k46 (w.heap.size + 1) rfl (.tmp 112) (.tmp 117) 47 46 (.agg #[(.int .i64 0), (.bool false)]) 16 rfl Try.underlying47 info46 rfl (by decide) (by omega) u10 out2 (⟨ya, false⟩ : S46) [.int .i64 ya, .bool false] (fun _ => True) (fun _ => False) rfl ?aX ?aP (fun _ hk => hk.elim) ?aF ?aO (Below.refl _ _) ?aS ?aL ?_; (case aX => first | rfl | (go_simp; done) | (go_simp; rfl)); (case aP => exact k46_mkM _ _ _ (⟨ya, false⟩ : S46)); (case aF => exact (fun _ _ => trivial)); (case aO => exact (by first | exact HQc.out | exact Kd.R_alloc HQc.out _)); (case aS => have h1 := HSz.out; have h2 := HBc.out.size; have h3 := blk_lt HX.out; (try simp only [World.size_alloc]); omega); (case aL => have := HLo.out; omega); intro v6 w6 ho hb hg hat; have HQ6 := Aside0.mk ho; have HP6 := Aside0.mk (Kd.R_over (by first | exact HPc.out | exact Kd.R_alloc HPc.out _) (by first | exact HQc.out | exact Kd.R_alloc HQc.out _) (by decide) hg); have HB6 := Aside0.mk (Below.trans (by first | exact HBc.out | exact below_alloc HBc.out _) (hb.mono (by omega))); clear ho hb hg hat))
                          go_roundw
                          case rel =>
                            refine ⟨k + 1, _, by omega, by go_num, HP6, HQ6, HB6, ⟨?_⟩⟩
                            rw [← HE.out, HS.out, if_neg (by simp [HN10.out]), if_pos (by simp [HM.out]), List.append_assoc]
                          case measure => simp [intOf]; omega
                        | false =>
                          have HPL : Aside0 (∀ w, Calls Try.prog 67 #[.int .i32 xr] w fun e w' => e = .returned (.bool false) ∧ Below w.heap.size w w') := ⟨fun w => (show oth xr = false from hl) ▸ plain_calls xr w⟩
                          have x32 : (xr == 32) = false := by first | (simp; omega) | simp
                          have x45 : (xr == 45) = false := by first | (simp; omega) | simp
                          have xf : decide (4352 ≤ xr) = false := by first | (simp; omega) | simp
                          have yf : decide (4352 ≤ yr) = true := by first | (simp; omega) | simp
                          have HM : Aside0 (mayB xr yr = false) := ⟨by unfold mayB wid; rw [if_neg c1, if_neg c2, if_neg (by omega), if_pos c4]; exact hl⟩
                          (try clear h10); (try clear c1); (try clear c2); (try clear c3); (try clear c4)
                          go_wp2_with (first | (go_at_call 60; (with_reducible refine (HK.out _).mono ?_); rintro e w3 ⟨rfl, hb⟩; have n0_ := Aside0.mk (blk_below (blk_new wr _) hb); have n2_ := Aside0.mk (Kd.R_below (Kd.R_alloc HP.out _) hb); have n3_ := Aside0.mk (Kd.R_below (Kd.R_alloc HQ.out _) hb); have n4_ := Aside0.mk (below_step (below_alloc HBq.out _) hb); have n5_ := Aside0.mk (below_step (below_alloc (Below.refl _ _) _) hb); have HX := n0_; have HPc := n2_; have HQc := n3_; have HBc := n4_; have hX0 := (blk_cell HX.out 0).trans rfl; have hX1 := (blk_cell HX.out 1).trans rfl; have hXs := blk_lt HX.out; have hy0c := (n5_.out.cell (World.block_lt_of_cell? wr _ hy0)).trans hy0; have hy1c := (n5_.out.cell (World.block_lt_of_cell? wr _ hy1)).trans hy1; clear hb n0_ n2_ n3_ n4_ n5_) | (go_at_call 67; (with_reducible refine (HPL.out _).mono ?_); rintro e w5 ⟨rfl, hb⟩; have n0_ := Aside0.mk (blk_below (by first | exact HX.out | exact blk_alloc HX.out _) hb); have n1_ := Aside0.mk (blk_below (by first | exact HY.out | exact blk_new _ _) hb); have n2_ := Aside0.mk (Kd.R_below (by first | exact HPc.out | exact Kd.R_alloc HPc.out _) hb); have n3_ := Aside0.mk (Kd.R_below (by first | exact HQc.out | exact Kd.R_alloc HQc.out _) hb); have n4_ := Aside0.mk (below_step (by first | exact HBc.out | exact below_alloc HBc.out _) hb); clear HX HPc HQc HBc; (try clear HY); have HX := n0_; have HY := n1_; have HPc := n2_; have HQc := n3_; have HBc := n4_; have hX0 := (blk_cell HX.out 0).trans rfl; have hX1 := (blk_cell HX.out 1).trans rfl; have hY0 := (blk_cell HY.out 0).trans rfl; have hY1 := (blk_cell HY.out 1).trans rfl; clear hb n0_ n1_ n2_ n3_ n4_))
                          go_roundw
                          case rel =>
                            refine ⟨k + 1, _, by omega, by go_num, ⟨by first | exact HPc.out | exact Kd.R_alloc HPc.out _⟩, ⟨by first | exact HQc.out | exact Kd.R_alloc HQc.out _⟩, ⟨by first | exact HBc.out | exact below_alloc HBc.out _⟩, ⟨?_⟩⟩
                            rw [← HE.out, HS.out, if_neg (by simp [HN10.out]), if_neg (by simp [HM.out])]
                            rfl
                          case measure => simp [intOf]; omega
                      · have HN2 := Aside0.mk c4
                        have x32 : (xr == 32) = false := by first | (simp; omega) | simp
                        have x45 : (xr == 45) = false := by first | (simp; omega) | simp
                        have xf : decide (4352 ≤ xr) = false := by first | (simp; omega) | simp
                        have yf : decide (4352 ≤ yr) = false := by first | (simp; omega) | simp
                        have HM : Aside0 (mayB xr yr = false) := ⟨by unfold mayB wid; rw [if_neg c1, if_neg c2, if_neg (by omega), if_neg c4]⟩
                        (try clear h10); (try clear c1); (try clear c2); (try clear c3); (try clear c4)
                        go_wp2_with (first | (go_at_call 60; (with_reducible refine (HK.out _).mono ?_); rintro e w3 ⟨rfl, hb⟩; have n0_ := Aside0.mk (blk_below (blk_new wr _) hb); have n2_ := Aside0.mk (Kd.R_below (Kd.R_alloc HP.out _) hb); have n3_ := Aside0.mk (Kd.R_below (Kd.R_alloc HQ.out _) hb); have n4_ := Aside0.mk (below_step (below_alloc HBq.out _) hb); have n5_ := Aside0.mk (below_step (below_alloc (Below.refl _ _) _) hb); have HX := n0_; have HPc := n2_; have HQc := n3_; have HBc := n4_; have hX0 := (blk_cell HX.out 0).trans rfl; have hX1 := (blk_cell HX.out 1).trans rfl; have hXs := blk_lt HX.out; have hy0c := (n5_.out.cell (World.block_lt_of_cell? wr _ hy0)).trans hy0; have hy1c := (n5_.out.cell (World.block_lt_of_cell? wr _ hy1)).trans hy1; clear hb n0_ n2_ n3_ n4_ n5_))
                        go_roundw
                        case rel =>
                          refine ⟨k + 1, _, by omega, by go_num, ⟨by first | exact HPc.out | exact Kd.R_alloc HPc.out _⟩, ⟨by first | exact HQc.out | exact Kd.R_alloc HQc.out _⟩, ⟨by first | exact HBc.out | exact below_alloc HBc.out _⟩, ⟨?_⟩⟩
                          rw [← HE.out, HS.out, if_neg (by simp [HN10.out]), if_neg (by simp [HM.out])]
                          rfl
                        case measure => simp [intOf]; omega
            · obtain rfl : W = false := by rw [← HW_.out]; first | rfl | (unfold wrapsB; simp [m0, m3])
              obtain rfl : K = true := by rw [← HK_.out]; first | rfl | (unfold keepsB; simp [m1, m3])
              by_cases hend : k + 1 = out.length
              · have HS := Aside0.mk (from_last false true a0.size out k hend)
                have hendb : ((k : Int) + 1 == (out.length : Int)) = true := beq_iff_eq.mpr (by omega)
                rw [hxr] at HS
                clear hend
                by_cases h10 : xr = 10
                · have x10 : (xr == 10) = true := beq_iff_eq.mpr h10
                  have HN10 := Aside0.mk h10
                  clear h10
                  go_wp2_with (first | (go_at_call 60; (with_reducible refine (HK.out _).mono ?_); rintro e w3 ⟨rfl, hb⟩; have n0_ := Aside0.mk (blk_below (blk_new wr _) hb); have n2_ := Aside0.mk (Kd.R_below (Kd.R_alloc HP.out _) hb); have n3_ := Aside0.mk (Kd.R_below (Kd.R_alloc HQ.out _) hb); have n4_ := Aside0.mk (below_step (below_alloc HBq.out _) hb); have n5_ := Aside0.mk (below_step (below_alloc (Below.refl _ _) _) hb); have HX := n0_; have HPc := n2_; have HQc := n3_; have HBc := n4_; have hX0 := (blk_cell HX.out 0).trans rfl; have hX1 := (blk_cell HX.out 1).trans rfl; have hXs := blk_lt HX.out; clear hb n0_ n2_ n3_ n4_ n5_) | ((with_reducible refine gate_builtin (b := .append) (xs := #[.tmp 48, .tmp 52]) rfl ?_); at_builtin; refine Kd.R_append k46 (w.heap.size + 1) rfl (.tmp 48) (.tmp 52) 47 46 (.agg #[(.int .i64 0), (.bool false)]) 16 rfl Try.underlying47 info46 rfl (by decide) (by omega) u10 out2 (⟨(a0.size : Int), true⟩ : S46) [.int .i64 (a0.size : Int), .bool true] (fun _ => True) (fun _ => False) rfl ?aX ?aP (fun _ hk => hk.elim) ?aF ?aO (Below.refl _ _) ?aS ?aL ?_; (case aX => first | rfl | (go_simp; done) | (go_simp; rfl)); (case aP => exact k46_mkM _ _ _ (⟨(a0.size : Int), true⟩ : S46)); (case aF => exact (fun _ _ => trivial)); (case aO => exact (by first | exact HQc.out | exact Kd.R_alloc HQc.out _)); (case aS => have h1 := HSz.out; have h2 := HBc.out.size; have h3 := blk_lt HX.out; (try simp only [World.size_alloc]); omega); (case aL => have := HLo.out; omega); intro v6 w6 ho hb hg hat; have HQ6 := Aside0.mk ho; have HP6 := Aside0.mk (Kd.R_over (by first | exact HPc.out | exact Kd.R_alloc HPc.out _) (by first | exact HQc.out | exact Kd.R_alloc HQc.out _) (by decide) hg); have HB6 := Aside0.mk (Below.trans (by first | exact HBc.out | exact below_alloc HBc.out _) (hb.mono (by omega))); clear ho hb hg hat))
                  go_roundw
                  case rel =>
                    refine ⟨k + 1, _, by omega, by go_num, HP6, HQ6, HB6, ⟨?_⟩⟩
                    rw [← HE.out, HS.out, if_pos (by simp [HN10.out]), List.append_assoc]
                  case measure => simp [intOf]; omega
                · have x10 : (xr == 10) = false := beq_eq_false_iff_ne.mpr h10
                  have HN10 := Aside0.mk h10
                  clear h10
                  go_wp2_with (go_at_call 60; (with_reducible refine (HK.out _).mono ?_); rintro e w3 ⟨rfl, hb⟩; have n0_ := Aside0.mk (blk_below (blk_new wr _) hb); have n2_ := Aside0.mk (Kd.R_below (Kd.R_alloc HP.out _) hb); have n3_ := Aside0.mk (Kd.R_below (Kd.R_alloc HQ.out _) hb); have n4_ := Aside0.mk (below_step (below_alloc HBq.out _) hb); have n5_ := Aside0.mk (below_step (below_alloc (Below.refl _ _) _) hb); have HX := n0_; have HPc := n2_; have HQc := n3_; have HBc := n4_; have hX0 := (blk_cell HX.out 0).trans rfl; have hX1 := (blk_cell HX.out 1).trans rfl; have hXs := blk_lt HX.out; clear hb n0_ n2_ n3_ n4_ n5_)
                  go_roundw
                  case rel =>
                    refine ⟨k + 1, _, by omega, by go_num, ⟨by first | exact HPc.out | exact Kd.R_alloc HPc.out _⟩, ⟨by first | exact HQc.out | exact Kd.R_alloc HQc.out _⟩, ⟨by first | exact HBc.out | exact below_alloc HBc.out _⟩, ⟨?_⟩⟩
                    rw [← HE.out, HS.out, if_neg (by simp [HN10.out])]
                    rfl
                  case measure => simp [intOf]; omega
              · have HS := Aside0.mk (from_step false true a0.size out k (by omega))
                obtain ⟨ad2, e6, hy0, hy1⟩ := at_T92 (Kd.R_reads' HP.out).2.2 (k + 1) (by omega)
                cases e6
                have hendb : ((k : Int) + 1 == (out.length : Int)) = false := beq_eq_false_iff_ne.mpr (by omega)
                obtain ⟨yr, hyr⟩ : ∃ q, (rdP out (k + 1)).2 = q := ⟨_, rfl⟩
                obtain ⟨ya, hya⟩ : ∃ q, (rdP out (k + 1)).1 = q := ⟨_, rfl⟩
                rw [hyr] at hy0
                rw [hya] at hy1
                rw [hxr, hyr, hya] at HS
                clear hyr hya
                by_cases h10 : xr = 10
                · have x10 : (xr == 10) = true := beq_iff_eq.mpr h10
                  have HN10 := Aside0.mk h10
                  (try clear h10); (try clear c1); (try clear c2); (try clear c3); (try clear c4)
                  go_wp2_with (first | (go_at_call 60; (with_reducible refine (HK.out _).mono ?_); rintro e w3 ⟨rfl, hb⟩; have n0_ := Aside0.mk (blk_below (blk_new wr _) hb); have n2_ := Aside0.mk (Kd.R_below (Kd.R_alloc HP.out _) hb); have n3_ := Aside0.mk (Kd.R_below (Kd.R_alloc HQ.out _) hb); have n4_ := Aside0.mk (below_step (below_alloc HBq.out _) hb); have n5_ := Aside0.mk (below_step (below_alloc (Below.refl _ _) _) hb); have HX := n0_; have HPc := n2_; have HQc := n3_; have HBc := n4_; have hX0 := (blk_cell HX.out 0).trans rfl; have hX1 := (blk_cell HX.out 1).trans rfl; have hXs := blk_lt HX.out; have hy0c := (n5_.out.cell (World.block_lt_of_cell? wr _ hy0)).trans hy0; have hy1c := (n5_.out.cell (World.block_lt_of_cell? wr _ hy1)).trans hy1; clear hb n0_ n2_ n3_ n4_ n5_) | ((with_reducible refine gate_builtin (b := .append) (xs := #[.tmp 112, .tmp 117]) rfl ?_); at_builtin; refine Kd.R_append k46 (w.heap.size + 1) rfl (.tmp 112) (.tmp 117) 47 46 (.agg #[(.int .i64 0), (.bool false)]) 16 rfl Try.underlying47 info46 rfl (by decide) (by omega) u10 out2 (⟨ya, true⟩ : S46) [.int .i64 ya, .bool true] (fun _ => True) (fun _ => False) rfl ?aX ?aP (fun _ hk => hk.elim) ?aF ?aO (Below.refl _ _) ?aS ?aL ?_; (case aX => first | rfl | (go_simp; done) | (go_simp; rfl)); (case aP => exact k46_mkM _ _ _ (⟨ya, true⟩ : S46)); (case aF => exact (fun _ _ => trivial)); (case aO => exact (by first | exact HQc.out | exact Kd.R_alloc HQc.out _)); (case aS => have h1 := HSz.out; have h2 := HBc.out.size; have h3 := blk_lt HX.out; (try simp only [World.size_alloc]); omega); (case aL => have := HLo.out; omega); intro v6 w6 ho hb hg hat; have HQ6 := Aside0.mk ho; have HP6 := Aside0.mk (Kd.R_over (by first | exact HPc.out | exact Kd.R_alloc HPc.out _) (by first | exact HQc.out | exact Kd.R_alloc HQc.out _) (by decide) hg); have HB6 := Aside0.mk (Below.trans (by first | exact HBc.out | exact below_alloc HBc.out _) (hb.mono (by omega))); clear ho hb hg hat))
                  go_roundw
                  case rel =>
                    refine ⟨k + 1, _, by omega, by go_num, HP6, HQ6, HB6, ⟨?_⟩⟩
                    rw [← HE.out, HS.out, if_pos (by simp [HN10.out]), List.append_assoc]
                  case measure => simp [intOf]; omega
                · have x10 : (xr == 10) = false := beq_eq_false_iff_ne.mpr h10
                  have HN10 := Aside0.mk h10
                  (try clear h10); (try clear c1); (try clear c2); (try clear c3); (try clear c4)
                  go_wp2_with (first | (go_at_call 60; (with_reducible refine (HK.out _).mono ?_); rintro e w3 ⟨rfl, hb⟩; have n0_ := Aside0.mk (blk_below (blk_new wr _) hb); have n2_ := Aside0.mk (Kd.R_below (Kd.R_alloc HP.out _) hb); have n3_ := Aside0.mk (Kd.R_below (Kd.R_alloc HQ.out _) hb); have n4_ := Aside0.mk (below_step (below_alloc HBq.out _) hb); have n5_ := Aside0.mk (below_step (below_alloc (Below.refl _ _) _) hb); have HX := n0_; have HPc := n2_; have HQc := n3_; have HBc := n4_; have hX0 := (blk_cell HX.out 0).trans rfl; have hX1 := (blk_cell HX.out 1).trans rfl; have hXs := blk_lt HX.out; have hy0c := (n5_.out.cell (World.block_lt_of_cell? wr _ hy0)).trans hy0; have hy1c := (n5_.out.cell (World.block_lt_of_cell? wr _ hy1)).trans hy1; clear hb n0_ n2_ n3_ n4_ n5_))
                  go_roundw
                  case rel =>
                    refine ⟨k + 1, _, by omega, by go_num, ⟨by first | exact HPc.out | exact Kd.R_alloc HPc.out _⟩, ⟨by first | exact HQc.out | exact Kd.R_alloc HQc.out _⟩, ⟨by first | exact HBc.out | exact below_alloc HBc.out _⟩, ⟨?_⟩⟩
                    rw [← HE.out, HS.out, if_neg (by simp [HN10.out]), if_neg (by simp)]
                    rfl
                  case measure => simp [intOf]; omega
            · obtain rfl : W = true := by rw [← HW_.out]; first | rfl | (unfold wrapsB; simp [m0, m3])
              obtain rfl : K = true := by rw [← HK_.out]; first | rfl | (unfold keepsB; simp [m1, m3])
              by_cases hend : k + 1 = out.length
              · have HS := Aside0.mk (from_last true true a0.size out k hend)
                have hendb : ((k : Int) + 1 == (out.length : Int)) = true := beq_iff_eq.mpr (by omega)
                rw [hxr] at HS
                clear hend
                by_cases h10 : xr = 10
                · have x10 : (xr == 10) = true := beq_iff_eq.mpr h10
                  have HN10 := Aside0.mk h10
                  clear h10
                  go_wp2_with (first | (go_at_call 60; (with_reducible refine (HK.out _).mono ?_); rintro e w3 ⟨rfl, hb⟩; have n0_ := Aside0.mk (blk_below (blk_new wr _) hb); have n2_ := Aside0.mk (Kd.R_below (Kd.R_alloc HP.out _) hb); have n3_ := Aside0.mk (Kd.R_below (Kd.R_alloc HQ.out _) hb); have n4_ := Aside0.mk (below_step (below_alloc HBq.out _) hb); have n5_ := Aside0.mk (below_step (below_alloc (Below.refl _ _) _) hb); have HX := n0_; have HPc := n2_; have HQc := n3_; have HBc := n4_; have hX0 := (blk_cell HX.out 0).trans rfl; have hX1 := (blk_cell HX.out 1).trans rfl; have hXs := blk_lt HX.out; clear hb n0_ n2_ n3_ n4_ n5_) | ((with_reducible refine gate_builtin (b := .append) (xs := #[.tmp 48, .tmp 52]) rfl ?_); at_builtin; refine Kd.R_append k46 (w.heap.size + 1) rfl (.tmp 48) (.tmp 52) 47 46 (.agg #[(.int .i64 0), (.bool false)]) 16 rfl Try.underlying47 info46 rfl (by decide) (by omega) u10 out2 (⟨(a0.size : Int), true⟩ : S46) [.int .i64 (a0.size : Int), .bool true] (fun _ => True) (fun _ => False) rfl ?aX ?aP (fun _ hk => hk.elim) ?aF ?aO (Below.refl _ _) ?aS ?aL ?_; (case aX => first | rfl | (go_simp; done) | (go_simp; rfl)); (case aP => exact k46_mkM _ _ _ (⟨(a0.size : Int), true⟩ : S46)); (case aF => exact (fun _ _ => trivial)); (case aO => exact (by first | exact HQc.out | exact Kd.R_alloc HQc.out _)); (case aS => have h1 := HSz.out; have h2 := HBc.out.size; have h3 := blk_lt HX.out; (try simp only [World.size_alloc]); omega); (case aL => have := HLo.out; omega); intro v6 w6 ho hb hg hat; have HQ6 := Aside0.mk ho; have HP6 := Aside0.mk (Kd.R_over (by first | exact HPc.out | exact Kd.R_alloc HPc.out _) (by first | exact HQc.out | exact Kd.R_alloc HQc.out _) (by decide) hg); have HB6 := Aside0.mk (Below.trans (by first | exact HBc.out | exact below_alloc HBc.out _) (hb.mono (by omega))); clear ho hb hg hat))
                  go_roundw
                  case rel =>
                    refine ⟨k + 1, _, by omega, by go_num, HP6, HQ6, HB6, ⟨?_⟩⟩
                    rw [← HE.out, HS.out, if_pos (by simp [HN10.out]), List.append_assoc]
                  case measure => simp [intOf]; omega
                · have x10 : (xr == 10) = false := beq_eq_false_iff_ne.mpr h10
                  have HN10 := Aside0.mk h10
                  clear h10
                  go_wp2_with (go_at_call 60; (with_reducible refine (HK.out _).mono ?_); rintro e w3 ⟨rfl, hb⟩; have n0_ := Aside0.mk (blk_below (blk_new wr _) hb); have n2_ := Aside0.mk (Kd.R_below (Kd.R_alloc HP.out _) hb); have n3_ := Aside0.mk (Kd.R_below (Kd.R_alloc HQ.out _) hb); have n4_ := Aside0.mk (below_step (below_alloc HBq.out _) hb); have n5_ := Aside0.mk (below_step (below_alloc (Below.refl _ _) _) hb); have HX := n0_; have HPc := n2_; have HQc := n3_; have HBc := n4_; have hX0 := (blk_cell HX.out 0).trans rfl; have hX1 := (blk_cell HX.out 1).trans rfl; have hXs := blk_lt HX.out; clear hb n0_ n2_ n3_ n4_ n5_)
                  go_roundw
                  case rel =>
                    refine ⟨k + 1, _, by omega, by go_num, ⟨by first | exact HPc.out | exact Kd.R_alloc HPc.out _⟩, ⟨by first | exact HQc.out | exact Kd.R_alloc HQc.out _⟩, ⟨by first | exact HBc.out | exact below_alloc HBc.out _⟩, ⟨?_⟩⟩
                    rw [← HE.out, HS.out, if_neg (by simp [HN10.out])]
                    rfl
                  case measure => simp [intOf]; omega
              · have HS := Aside0.mk (from_step true true a0.size out k (by omega))
                obtain ⟨ad2, e6, hy0, hy1⟩ := at_T92 (Kd.R_reads' HP.out).2.2 (k + 1) (by omega)
                cases e6
                have hendb : ((k : Int) + 1 == (out.length : Int)) = false := beq_eq_false_iff_ne.mpr (by omega)
                obtain ⟨yr, hyr⟩ : ∃ q, (rdP out (k + 1)).2 = q := ⟨_, rfl⟩
                obtain ⟨ya, hya⟩ : ∃ q, (rdP out (k + 1)).1 = q := ⟨_, rfl⟩
                rw [hyr] at hy0
                rw [hya] at hy1
                rw [hxr, hyr, hya] at HS
                clear hyr hya
                by_cases h10 : xr = 10
                · have x10 : (xr == 10) = true := beq_iff_eq.mpr h10
                  have HN10 := Aside0.mk h10
                  by_cases c4 : yr ≥ 4352
                  · have hl : oth xr = false := by rw [h10]; rfl
                    have HPL : Aside0 (∀ w, Calls Try.prog 67 #[.int .i32 xr] w fun e w' => e = .returned (.bool false) ∧ Below w.heap.size w w') := ⟨fun w => (show oth xr = false from hl) ▸ plain_calls xr w⟩
                    have x32 : (xr == 32) = false := by first | (simp; omega) | simp
                    have x45 : (xr == 45) = false := by first | (simp; omega) | simp
                    have xf : decide (4352 ≤ xr) = false := by first | (simp; omega) | simp
                    have yf : decide (4352 ≤ yr) = true := by first | (simp; omega) | simp
                    have HM : Aside0 (mayB xr yr = false) := ⟨by rw [h10]; unfold mayB wid; rw [if_neg (by decide), if_neg (by decide), if_neg (by omega), if_pos c4]; rfl⟩
                    (try clear h10); (try clear c1); (try clear c2); (try clear c3); (try clear c4)
                    go_wp2_with (first | (go_at_call 60; (with_reducible refine (HK.out _).mono ?_); rintro e w3 ⟨rfl, hb⟩; have n0_ := Aside0.mk (blk_below (blk_new wr _) hb); have n2_ := Aside0.mk (Kd.R_below (Kd.R_alloc HP.out _) hb); have n3_ := Aside0.mk (Kd.R_below (Kd.R_alloc HQ.out _) hb); have n4_ := Aside0.mk (below_step (below_alloc HBq.out _) hb); have n5_ := Aside0.mk (below_step (below_alloc (Below.refl _ _) _) hb); have HX := n0_; have HPc := n2_; have HQc := n3_; have HBc := n4_; have hX0 := (blk_cell HX.out 0).trans rfl; have hX1 := (blk_cell HX.out 1).trans rfl; have hXs := blk_lt HX.out; have hy0c := (n5_.out.cell (World.block_lt_of_cell? wr _ hy0)).trans hy0; have hy1c := (n5_.out.cell (World.block_lt_of_cell? wr _ hy1)).trans hy1; clear hb n0_ n2_ n3_ n4_ n5_) | (go_at_call 67; (with_reducible refine (HPL.out _).mono ?_); rintro e w5 ⟨rfl, hb⟩; have n0_ := Aside0.mk (blk_below (by first | exact HX.out | exact blk_alloc HX.out _) hb); have n1_ := Aside0.mk (blk_below (by first | exact HY.out | exact blk_new _ _) hb); have n2_ := Aside0.mk (Kd.R_below (by first | exact HPc.out | exact Kd.R_alloc HPc.out _) hb); have n3_ := Aside0.mk (Kd.R_below (by first | exact HQc.out | exact Kd.R_alloc HQc.out _) hb); have n4_ := Aside0.mk (below_step (by first | exact HBc.out | exact below_alloc HBc.out _) hb); clear HX HPc HQc HBc; (try clear HY); have HX := n0_; have HY := n1_; have HPc := n2_; have HQc := n3_; have HBc := n4_; have hX0 := (blk_cell HX.out 0).trans rfl; have hX1 := (blk_cell HX.out 1).trans rfl; have hY0 := (blk_cell HY.out 0).trans rfl; have hY1 := (blk_cell HY.out 1).trans rfl; clear hb n0_ n1_ n2_ n3_ n4_) | ((with_reducible refine gate_builtin (b := .append) (xs := #[.tmp 112, .tmp 117]) rfl ?_); at_builtin; refine Kd.R_append k46 (w.heap.size + 1) rfl (.tmp 112) (.tmp 117) 47 46 (.agg #[(.int .i64 0), (.bool false)]) 16 rfl Try.underlying47 info46 rfl (by decide) (by omega) u10 out2 (⟨ya, true⟩ : S46) [.int .i64 ya, .bool true] (fun _ => True) (fun _ => False) rfl ?aX ?aP (fun _ hk => hk.elim) ?aF ?aO (Below.refl _ _) ?aS ?aL ?_; (case aX => first | rfl | (go_simp; done) | (go_simp; rfl)); (case aP => exact k46_mkM _ _ _ (⟨ya, true⟩ : S46)); (case aF => exact (fun _ _ => trivial)); (case aO => exact (by first | exact HQc.out | exact Kd.R_alloc HQc.out _)); (case aS => have h1 := HSz.out; have h2 := HBc.out.size; have h3 := blk_lt HX.out; (try simp only [World.size_alloc]); omega); (case aL => have := HLo.out; omega); intro v6 w6 ho hb hg hat; have HQ6 := Aside0.mk ho; have HP6 := Aside0.mk (Kd.R_over (by first | exact HPc.out | exact Kd.R_alloc HPc.out _) (by first | exact HQc.out | exact Kd.R_alloc HQc.out _) (by decide) hg); have HB6 := Aside0.mk (Below.trans (by first | exact HBc.out | exact below_alloc HBc.out _) (hb.mono (by omega))); clear ho hb hg hat))
                    go_roundw
                    case rel =>
                      refine ⟨k + 1, _, by omega, by go_num, HP6, HQ6, HB6, ⟨?_⟩⟩
                      rw [← HE.out, HS.out, if_pos (by simp [HN10.out]), List.append_assoc]
                    case measure => simp [intOf]; omega
                  · have HN2 := Aside0.mk c4
                    have x32 : (xr == 32) = false := by first | (simp; omega) | simp
                    have x45 : (xr == 45) = false := by first | (simp; omega) | simp
                    have xf : decide (4352 ≤ xr) = false := by first | (simp; omega) | simp
                    have yf : decide (4352 ≤ yr) = false := by first | (simp; omega) | simp
                    have HM : Aside0 (mayB xr yr = false) := ⟨by rw [h10]; unfold mayB wid; rw [if_neg (by decide), if_neg (by decide), if_neg (by omega), if_neg c4]⟩
                    (try clear h10); (try clear c1); (try clear c2); (try clear c3); (try clear c4)
                    go_wp2_with (first | (go_at_call 60; (with_reducible refine (HK.out _).mono ?_); rintro e w3 ⟨rfl, hb⟩; have n0_ := Aside0.mk (blk_below (blk_new wr _) hb); have n2_ := Aside0.mk (Kd.R_below (Kd.R_alloc HP.out _) hb); have n3_ := Aside0.mk (Kd.R_below (Kd.R_alloc HQ.out _) hb); have n4_ := Aside0.mk (below_step (below_alloc HBq.out _) hb); have n5_ := Aside0.mk (below_step (below_alloc (Below.refl _ _) _) hb); have HX := n0_; have HPc := n2_; have HQc := n3_; have HBc := n4_; have hX0 := (blk_cell HX.out 0).trans rfl; have hX1 := (blk_cell HX.out 1).trans rfl; have hXs := blk_lt HX.out; have hy0c := (n5_.out.cell (World.block_lt_of_cell? wr _ hy0)).trans hy0; have hy1c := (n5_.out.cell (World.block_lt_of_cell? wr _ hy1)).trans hy1; clear hb n0_ n2_ n3_ n4_ n5_) | ((with_reducible refine gate_builtin (b := .append) (xs := #[.tmp 112, .tmp 117]) rfl ?_); at_builtin; refine Kd.R_append k46 (w.heap.size + 1) rfl (.tmp 112) (.tmp 117) 47 46 (.agg #[(.int .i64 0), (.bool false)]) 16 rfl Try.underlying47 info46 rfl (by decide) (by omega) u10 out2 (⟨ya, true⟩ : S46) [.int .i64 ya, .bool true] (fun _ => True) (fun _ => False) rfl ?aX ?aP (fun _ hk => hk.elim) ?aF ?aO (Below.refl _ _) ?aS ?aL ?_; (case aX => first | rfl | (go_simp; done) | (go_simp; rfl)); (case aP => exact k46_mkM _ _ _ (⟨ya, true⟩ : S46)); (case aF => exact (fun _ _ => trivial)); (case aO => exact (by first | exact HQc.out | exact Kd.R_alloc HQc.out _)); (case aS => have h1 := HSz.out; have h2 := HBc.out.size; have h3 := blk_lt HX.out; (try simp only [World.size_alloc]); omega); (case aL => have := HLo.out; omega); intro v6 w6 ho hb hg hat; have HQ6 := Aside0.mk ho; have HP6 := Aside0.mk (Kd.R_over (by first | exact HPc.out | exact Kd.R_alloc HPc.out _) (by first | exact HQc.out | exact Kd.R_alloc HQc.out _) (by decide) hg); have HB6 := Aside0.mk (Below.trans (by first | exact HBc.out | exact below_alloc HBc.out _) (hb.mono (by omega))); clear ho hb hg hat))
                    go_roundw
                    case rel =>
                      refine ⟨k + 1, _, by omega, by go_num, HP6, HQ6, HB6, ⟨?_⟩⟩
                      rw [← HE.out, HS.out, if_pos (by simp [HN10.out]), List.append_assoc]
                    case measure => simp [intOf]; omega
                · have x10 : (xr == 10) = false := beq_eq_false_iff_ne.mpr h10
                  have HN10 := Aside0.mk h10
                  by_cases c1 : xr = 32
                  · by_cases c2 : yr = 32
                    · have HN2 := Aside0.mk c2
                      have x32 : (xr == 32) = true := by first | (simp; omega) | simp
                      have y32 : (yr != 32) = false := by first | (simp; omega) | simp
                      have x45 : (xr == 45) = false := by first | (simp; omega) | simp
                      have xf : decide (4352 ≤ xr) = false := by first | (simp; omega) | simp
                      have yf : decide (4352 ≤ yr) = false := by first | (simp; omega) | simp
                      have HM : Aside0 (mayB xr yr = false) := ⟨by unfold mayB; rw [if_pos c1]; simp [c2]⟩
                      (try clear h10); (try clear c1); (try clear c2); (try clear c3); (try clear c4)
                      go_wp2_with (first | (go_at_call 60; (with_reducible refine (HK.out _).mono ?_); rintro e w3 ⟨rfl, hb⟩; have n0_ := Aside0.mk (blk_below (blk_new wr _) hb); have n2_ := Aside0.mk (Kd.R_below (Kd.R_alloc HP.out _) hb); have n3_ := Aside0.mk (Kd.R_below (Kd.R_alloc HQ.out _) hb); have n4_ := Aside0.mk (below_step (below_alloc HBq.out _) hb); have n5_ := Aside0.mk (below_step (below_alloc (Below.refl _ _) _) hb); have HX := n0_; have HPc := n2_; have HQc := n3_; have HBc := n4_; have hX0 := (blk_cell HX.out 0).trans rfl; have hX1 := (blk_cell HX.out 1).trans rfl; have hXs := blk_lt HX.out; have hy0c := (n5_.out.cell (World.block_lt_of_cell? wr _ hy0)).trans hy0; have hy1c := (n5_.out.cell (World.block_lt_of_cell? wr _ hy1)).trans hy1; clear hb n0_ n2_ n3_ n4_ n5_))
                      go_roundw
                      case rel =>
                        refine ⟨k + 1, _, by omega, by go_num, ⟨by first | exact HPc.out | exact Kd.R_alloc HPc.out _⟩, ⟨by first | exact HQc.out | exact Kd.R_alloc HQc.out _⟩, ⟨by first | exact HBc.out | exact below_alloc HBc.out _⟩, ⟨?_⟩⟩
                        rw [← HE.out, HS.out, if_neg (by simp [HN10.out]), if_neg (by simp [HM.out])]
                        rfl
                      case measure => simp [intOf]; omega
                    · have HN2 := Aside0.mk c2
                      have x32 : (xr == 32) = true := by first | (simp; omega) | simp
                      have y32 : (yr != 32) = true := by first | (simp; omega) | simp
                      have HM : Aside0 (mayB xr yr = true) := ⟨by unfold mayB; rw [if_pos c1]; simp [c2]⟩
                      (try clear h10); (try clear c1); (try clear c2); (try clear c3); (try clear c4)
                      go_wp2_with (first | (go_at_call 60; (with_reducible refine (HK.out _).mono ?_); rintro e w3 ⟨rfl, hb⟩; have n0_ := Aside0.mk (blk_below (blk_new wr _) hb); have n2_ := Aside0.mk (Kd.R_below (Kd.R_alloc HP.out _) hb); have n3_ := Aside0.mk (Kd.R_below (Kd.R_alloc HQ.out _) hb); have n4_ := Aside0.mk (below_step (below_alloc HBq.out _) hb); have n5_ := Aside0.mk (below_step (below_alloc (Below.refl _ _) _) hb); have HX := n0_; have HPc := n2_; have HQc := n3_; have HBc := n4_; have hX0 := (blk_cell HX.out 0).trans rfl; have hX1 := (blk_cell HX.out 1).trans rfl; have hXs := blk_lt HX.out; have hy0c := (n5_.out.cell (World.block_lt_of_cell? wr _ hy0)).trans hy0; have hy1c := (n5_.out.cell (World.block_lt_of_cell? wr _ hy1)).trans hy1; clear hb n0_ n2_ n3_ n4_ n5_) | ((with_reducible refine gate_builtin (b := .append) (xs := #[.tmp 112, .tmp 117]) rfl ?_); at_builtin; refine Kd.R_append k46 (w.heap.size + 1) rfl (.tmp 112) (.tmp 117) 47 46 (.agg #[(.int .i64 0), (.bool false)]) 16 rfl Try.underlying47 info46 rfl (by decide) (by omega) u10 out2 (⟨ya, false⟩ : S46) [.int .i64 ya, .bool false] (fun _ => True) (fun _ => False) rfl ?aX ?aP (fun _ hk => hk.elim) ?aF ?aO (Below.refl _ _) ?aS ?aL ?_; (case aX => first | rfl | (go_simp; done) | (go_simp; rfl)); (case aP => exact k46_mkM _ _ _ (⟨ya, false⟩ : S46)); (case aF => exact (fun _ _ => trivial)); (case aO => exact (by first | exact HQc.out | exact Kd.R_alloc HQc.out _)); (case aS => have h1 := HSz.out; have h2 := HBc.out.size; have h3 := blk_lt HX.out; (try simp only [World.size_alloc]); omega); (case aL => have := HLo.out; omega); intro v6 w6 ho hb hg hat; have HQ6 := Aside0.mk ho; have HP6 := Aside0.mk (Kd.R_over (by first | exact HPc.out | exact Kd.R_alloc HPc.out _) (by first | exact HQc.out | exact Kd.R_alloc HQc.out _) (by decide) hg); have HB6 := Aside0.mk (Below.trans (by first | exact HBc.out | exact below_alloc HBc.out _) (hb.mono (by omega))); clear ho hb hg hat))
                      go_roundw
                      case rel =>
                        refine ⟨k + 1, _, by omega, by go_num, HP6, HQ6, HB6, ⟨?_⟩⟩
                        rw [← HE.out, HS.out, if_neg (by simp [HN10.out]), if_pos (by simp [HM.out]), List.append_assoc]
                      case measure => simp [intOf]; omega
                  · by_cases c2 : xr = 45
                    · cases hl : let0 yr with
                      | true =>
                        have HLT : Aside0 (∀ w, Calls Try.prog 66 #[.int .i32 yr] w fun e w' => e = .returned (.bool true) ∧ Below w.heap.size w w') := ⟨fun w => hl ▸ let_calls 66 (.inr rfl) yr w⟩
                        have x32 : (xr == 32) = false := by first | (simp; omega) | simp
                        have x45 : (xr == 45) = true := by first | (simp; omega) | simp
                        have HM : Aside0 (mayB xr yr = true) := ⟨by unfold mayB; rw [if_neg c1, if_pos c2]; exact hl⟩
                        (try clear h10); (try clear c1); (try clear c2); (try clear c3); (try clear c4)
                        go_wp2_with (first | (go_at_call 60; (with_reducible refine (HK.out _).mono ?_); rintro e w3 ⟨rfl, hb⟩; have n0_ := Aside0.mk (blk_below (blk_new wr _) hb); have n2_ := Aside0.mk (Kd.R_below (Kd.R_alloc HP.out _) hb); have n3_ := Aside0.mk (Kd.R_below (Kd.R_alloc HQ.out _) hb); have n4_ := Aside0.mk (below_step (below_alloc HBq.out _) hb); have n5_ := Aside0.mk (below_step (below_alloc (Below.refl _ _) _) hb); have HX := n0_; have HPc := n2_; have HQc := n3_; have HBc := n4_; have hX0 := (blk_cell HX.out 0).trans rfl; have hX1 := (blk_cell HX.out 1).trans rfl; have hXs := blk_lt HX.out; have hy0c := (n5_.out.cell (World.block_lt_of_cell? wr _ hy0)).trans hy0; have hy1c := (n5_.out.cell (World.block_lt_of_cell? wr _ hy1)).trans hy1; clear hb n0_ n2_ n3_ n4_ n5_) | (go_at_call 66; (with_reducible refine (HLT.out _).mono ?_); rintro e w4 ⟨rfl, hb⟩; have n0_ := Aside0.mk (blk_below (by first | exact HX.out | exact blk_alloc HX.out _) hb); have n1_ := Aside0.mk (blk_below (by first | exact HY.out | exact blk_new _ _) hb); have n2_ := Aside0.mk (Kd.R_below (by first | exact HPc.out | exact Kd.R_alloc HPc.out _) hb); have n3_ := Aside0.mk (Kd.R_below (by first | exact HQc.out | exact Kd.R_alloc HQc.out _) hb); have n4_ := Aside0.mk (below_step (by first | exact HBc.out | exact below_alloc HBc.out _) hb); clear HX HPc HQc HBc; (try clear HY); have HX := n0_; have HY := n1_; have HPc := n2_; have HQc := n3_; have HBc := n4_; have hX0 := (blk_cell HX.out 0).trans rfl; have hX1 := (blk_cell HX.out 1).trans rfl; have hY0 := (blk_cell HY.out 0).trans rfl; have hY1 := (blk_cell HY.out 1).trans rfl; clear hb n0_ n1_ n2_ n3_ n4_) | ((with_reducible refine gate_builtin (b := .append) (xs := #[.tmp 112, .tmp 117]) rfl ?_); at_builtin; refine Kd.R_append k46 (w.heap.size + 1) rfl (.tmp 112) (.tmp 117) 47 46 (.agg #[(.int .i64 0), (.bool false)]) 16 rfl Try.underlying47 info46 rfl (by decide) (by omega) u10 out2 (⟨ya, false⟩ : S46) [.int .i64 ya, .bool false] (fun _ => True) (fun _ => False) rfl ?aX ?aP (fun _ hk => hk.elim) ?aF ?aO (Below.refl _ _) ?aS ?aL ?_; (case aX => first | rfl | (go_simp; done) | (go_simp; rfl)); (case aP => exact k46_mkM _ _ _ (⟨ya, false⟩ : S46)); (case aF => exact (fun _ _ => trivial)); (case aO => exact (by first | exact HQc.out | exact Kd.R_alloc HQc.out _)); (case aS => have h1 := HSz.out; have h2 := HBc.out.size; have h3 := blk_lt HX.out; (try simp only [World.size_alloc]); omega); (case aL => have := HLo.out; omega); intro v6 w6 ho hb hg hat; have HQ6 := Aside0.mk ho; have HP6 := Aside0.mk (Kd.R_over (by first | exact HPc.out | exact Kd.R_alloc HPc.out _) (by first | exact HQc.out | exact Kd.R_alloc HQc.out _) (by decide) hg); have HB6 := Aside0.mk (Below.trans (by first | exact HBc.out | exact below_alloc HBc.out _) (hb.mono (by omega))); clear ho hb hg hat))
                        go_roundw
                        case rel =>
                          refine ⟨k + 1, _, by omega, by go_num, HP6, HQ6, HB6, ⟨?_⟩⟩
                          rw [← HE.out, HS.out, if_neg (by simp [HN10.out]), if_pos (by simp [HM.out]), List.append_assoc]
                        case measure => simp [intOf]; omega
                      | false =>
                        have HLT : Aside0 (∀ w, Calls Try.prog 66 #[.int .i32 yr] w fun e w' => e = .returned (.bool false) ∧ Below w.heap.size w w') := ⟨fun w => hl ▸ let_calls 66 (.inr rfl) yr w⟩
                        by_cases c3 : yr ≥ 4352
                        · have HN2 := Aside0.mk c3
                          have HPL : Aside0 (∀ w, Calls Try.prog 67 #[.int .i32 xr] w fun e w' => e = .returned (.bool false) ∧ Below w.heap.size w w') := ⟨fun w => (show oth xr = false from (by unfold oth; rw [if_neg c1, if_pos c2])) ▸ plain_calls xr w⟩
                          have x32 : (xr == 32) = false := by first | (simp; omega) | simp
                          have x45 : (xr == 45) = true := by first | (simp; omega) | simp
                          have xf : decide (4352 ≤ xr) = false := by first | (simp; omega) | simp
                          have yf : decide (4352 ≤ yr) = true := by first | (simp; omega) | simp
                          have HM : Aside0 (mayB xr yr = false) := ⟨by unfold mayB; rw [if_neg c1, if_pos c2]; exact hl⟩
                          (try clear h10); (try clear c1); (try clear c2); (try clear c3); (try clear c4)
                          go_wp2_with (first | (go_at_call 60; (with_reducible refine (HK.out _).mono ?_); rintro e w3 ⟨rfl, hb⟩; have n0_ := Aside0.mk (blk_below (blk_new wr _) hb); have n2_ := Aside0.mk (Kd.R_below (Kd.R_alloc HP.out _) hb); have n3_ := Aside0.mk (Kd.R_below (Kd.R_alloc HQ.out _) hb); have n4_ := Aside0.mk (below_step (below_alloc HBq.out _) hb); have n5_ := Aside0.mk (below_step (below_alloc (Below.refl _ _) _) hb); have HX := n0_; have HPc := n2_; have HQc := n3_; have HBc := n4_; have hX0 := (blk_cell HX.out 0).trans rfl; have hX1 := (blk_cell HX.out 1).trans rfl; have hXs := blk_lt HX.out; have hy0c := (n5_.out.cell (World.block_lt_of_cell? wr _ hy0)).trans hy0; have hy1c := (n5_.out.cell (World.block_lt_of_cell? wr _ hy1)).trans hy1; clear hb n0_ n2_ n3_ n4_ n5_) | (go_at_call 66; (with_reducible refine (HLT.out _).mono ?_); rintro e w4 ⟨rfl, hb⟩; have n0_ := Aside0.mk (blk_below (by first | exact HX.out | exact blk_alloc HX.out _) hb); have n1_ := Aside0.mk (blk_below (by first | exact HY.out | exact blk_new _ _) hb); have n2_ := Aside0.mk (Kd.R_below (by first | exact HPc.out | exact Kd.R_alloc HPc.out _) hb); have n3_ := Aside0.mk (Kd.R_below (by first | exact HQc.out | exact Kd.R_alloc HQc.out _) hb); have n4_ := Aside0.mk (below_step (by first | exact HBc.out | exact below_alloc HBc.out _) hb); clear HX HPc HQc HBc; (try clear HY); have HX := n0_; have HY := n1_; have HPc := n2_; have HQc := n3_; have HBc := n4_; have hX0 := (blk_cell HX.out 0).trans rfl; have hX1 := (blk_cell HX.out 1).trans rfl; have hY0 := (blk_cell HY.out 0).trans rfl; have hY1 := (blk_cell HY.out 1).trans rfl; clear hb n0_ n1_ n2_ n3_ n4_) | (go_at_call 67; (with_reducible refine (HPL.out _).mono ?_); rintro e w5 ⟨rfl, hb⟩; have n0_ := Aside0.mk (blk_below (by first | exact HX.out | exact blk_alloc HX.out _) hb); have n1_ := Aside0.mk (blk_below (by first | exact HY.out | exact blk_new _ _) hb); have n2_ := Aside0.mk (Kd.R_below (by first | exact HPc.out | exact Kd.R_alloc HPc.out _) hb); have n3_ := Aside0.mk (Kd.R_below (by first | exact HQc.out | exact Kd.R_alloc HQc.out _) hb); have n4_ := Aside0.mk (below_step (by first | exact HBc.out | exact below_alloc HBc.out _) hb); clear HX HPc HQc HBc; (try clear HY); have HX := n0_; have HY := n1_; have HPc := n2_; have HQc := n3_; have HBc := n4_; have hX0 := (blk_cell HX.out 0).trans rfl; have hX1 := (blk_cell HX.out 1).trans rfl; have hY0 := (blk_cell HY.out 0).trans rfl; have hY1 := (blk_cell HY.out 1).trans rfl; clear hb n0_ n1_ n2_ n3_ n4_))
                          go_roundw
                          case rel =>
                            refine ⟨k + 1, _, by omega, by go_num, ⟨by first | exact HPc.out | exact Kd.R_alloc HPc.out _⟩, ⟨by first | exact HQc.out | exact Kd.R_alloc HQc.out _⟩, ⟨by first | exact HBc.out | exact below_alloc HBc.out _⟩, ⟨?_⟩⟩
                            rw [← HE.out, HS.out, if_neg (by simp [HN10.out]), if_neg (by simp [HM.out])]
                            rfl
                          case measure => simp [intOf]; omega
                        · have HN2 := Aside0.mk c3
                          have x32 : (xr == 32) = false := by first | (simp; omega) | simp
                          have x45 : (xr == 45) = true := by first | (simp; omega) | simp
                          have xf : decide (4352 ≤ xr) = false := by first | (simp; omega) | simp
                          have yf : decide (4352 ≤ yr) = false := by first | (simp; omega) | simp
                          have HM : Aside0 (mayB xr yr = false) := ⟨by unfold mayB; rw [if_neg c1, if_pos c2]; exact hl⟩
                          (try clear h10); (try clear c1); (try clear c2); (try clear c3); (try clear c4)
                          go_wp2_with (first | (go_at_call 60; (with_reducible refine (HK.out _).mono ?_); rintro e w3 ⟨rfl, hb⟩; have n0_ := Aside0.mk (blk_below (blk_new wr _) hb); have n2_ := Aside0.mk (Kd.R_below (Kd.R_alloc HP.out _) hb); have n3_ := Aside0.mk (Kd.R_below (Kd.R_alloc HQ.out _) hb); have n4_ := Aside0.mk (below_step (below_alloc HBq.out _) hb); have n5_ := Aside0.mk (below_step (below_alloc (Below.refl _ _) _) hb); have HX := n0_; have HPc := n2_; have HQc := n3_; have HBc := n4_; have hX0 := (blk_cell HX.out 0).trans rfl; have hX1 := (blk_cell HX.out 1).trans rfl; have hXs := blk_lt HX.out; have hy0c := (n5_.out.cell (World.block_lt_of_cell? wr _ hy0)).trans hy0; have hy1c := (n5_.out.cell (World.block_lt_of_cell? wr _ hy1)).trans hy1; clear hb n0_ n2_ n3_ n4_ n5_) | (go_at_call 66; (with_reducible refine (HLT.out _).mono ?_); rintro e w4 ⟨rfl, hb⟩; have n0_ := Aside0.mk (blk_below (by first | exact HX.out | exact blk_alloc HX.out _) hb); have n1_ := Aside0.mk (blk_below (by first | exact HY.out | exact blk_new _ _) hb); have n2_ := Aside0.mk (Kd.R_below (by first | exact HPc.out | exact Kd.R_alloc HPc.out _) hb); have n3_ := Aside0.mk (Kd.R_below (by first | exact HQc.out | exact Kd.R_alloc HQc.out _) hb); have n4_ := Aside0.mk (below_step (by first | exact HBc.out | exact below_alloc HBc.out _) hb); clear HX HPc HQc HBc; (try clear HY); have HX := n0_; have HY := n1_; have HPc := n2_; have HQc := n3_; have HBc := n4_; have hX0 := (blk_cell HX.out 0).trans rfl; have hX1 := (blk_cell HX.out 1).trans rfl; have hY0 := (blk_cell HY.out 0).trans rfl; have hY1 := (blk_cell HY.out 1).trans rfl; clear hb n0_ n1_ n2_ n3_ n4_))
                          go_roundw
                          case rel =>
                            refine ⟨k + 1, _, by omega, by go_num, ⟨by first | exact HPc.out | exact Kd.R_alloc HPc.out _⟩, ⟨by first | exact HQc.out | exact Kd.R_alloc HQc.out _⟩, ⟨by first | exact HBc.out | exact below_alloc HBc.out _⟩, ⟨?_⟩⟩
                            rw [← HE.out, HS.out, if_neg (by simp [HN10.out]), if_neg (by simp [HM.out])]
                            rfl
                          case measure => simp [intOf]; omega
                    · by_cases c3 : xr ≥ 4352
                      · cases hl : oth yr with
                        | true =>
                          have HPL : Aside0 (∀ w, Calls Try.prog 67 #[.int .i32 yr] w fun e w' => e = .returned (.bool true) ∧ Below w.heap.size w w') := ⟨fun w => (show oth yr = true from hl) ▸ plain_calls yr w⟩
                          have x32 : (xr == 32) = false := by first | (simp; omega) | simp
                          have x45 : (xr == 45) = false := by first | (simp; omega) | simp
                          have xf : decide (4352 ≤ xr) = true := by first | (simp; omega) | simp
                          have HM : Aside0 (mayB xr yr = true) := ⟨by unfold mayB wid; rw [if_neg c1, if_neg c2, if_pos ⟨c3, hl⟩]⟩
                          (try clear h10); (try clear c1); (try clear c2); (try clear c3); (try clear c4)
                          go_wp2_with (first | (go_at_call 60; (with_reducible refine (HK.out _).mono ?_); rintro e w3 ⟨rfl, hb⟩; have n0_ := Aside0.mk (blk_below (blk_new wr _) hb); have n2_ := Aside0.mk (Kd.R_below (Kd.R_alloc HP.out _) hb); have n3_ := Aside0.mk (Kd.R_below (Kd.R_alloc HQ.out _) hb); have n4_ := Aside0.mk (below_step (below_alloc HBq.out _) hb); have n5_ := Aside0.mk (below_step (below_alloc (Below.refl _ _) _) hb); have HX := n0_; have HPc := n2_; have HQc := n3_; have HBc := n4_; have hX0 := (blk_cell HX.out 0).trans rfl; have hX1 := (blk_cell HX.out 1).trans rfl; have hXs := blk_lt HX.out; have hy0c := (n5_.out.cell (World.block_lt_of_cell? wr _ hy0)).trans hy0; have hy1c := (n5_.out.cell (World.block_lt_of_cell? wr _ hy1)).trans hy1; clear hb n0_ n2_ n3_ n4_ n5_) | (go_at_call 67; (with_reducible refine (HPL.out _).mono ?_); rintro e w5 ⟨rfl, hb⟩; have n0_ := Aside0.mk (blk_below (by first | exact HX.out | exact blk_alloc HX.out _) hb); have n1_ := Aside0.mk (blk_below (by first | exact HY.out | exact blk_new _ _) hb); have n2_ := Aside0.mk (Kd.R_below (by first | exact HPc.out | exact Kd.R_alloc HPc.out _) hb); have n3_ := Aside0.mk (Kd.R_below (by first | exact HQc.out | exact Kd.R_alloc HQc.out _) hb); have n4_ := Aside0.mk (below_step (by first | exact HBc.out | exact below_alloc HBc.out _) hb); clear HX HPc HQc HBc; (try clear HY); have HX := n0_; have HY := n1_; have HPc := n2_; have HQc := n3_; have HBc := n4_; have hX0 := (blk_cell HX.out 0).trans rfl; have hX1 := (blk_cell HX.out 1).trans rfl; have hY0 := (blk_cell HY.out 0).trans rfl; have hY1 := (blk_cell HY.out 1).trans rfl; clear hb n0_ n1_ n2_ n3_ n4_) | ((with_reducible refine gate_builtin (b := .append) (xs := #[.tmp 112, .tmp 117]) rfl ?_); at_builtin; refine Kd.R_append k46 (w.heap.size + 1) rfl (.tmp 112) (.tmp 117) 47 46 (.agg #[(.int .i64 0), (.bool false)]) 16 rfl Try.underlying47 info46 rfl (by decide) (by omega) u10 out2 (⟨ya, false⟩ : S46) [.int .i64 ya, .bool false] (fun _ => True) (fun _ => False) rfl ?aX ?aP (fun _ hk => hk.elim) ?aF ?aO (Below.refl _ _) ?aS ?aL ?_; (case aX => first | rfl | (go_simp; done) | (go_simp; rfl)); (case aP => exact k46_mkM _ _ _ (⟨ya, false⟩ : S46)); (case aF => exact (fun _ _ => trivial)); (case aO => exact (by first | exact HQc.out | exact Kd.R_alloc HQc.out _)); (case aS => have h1 := HSz.out; have h2 := HBc.out.size; have h3 := blk_lt HX.out; (try simp only [World.size_alloc]); omega); (case aL => have := HLo.out; omega); intro v6 w6 ho hb hg hat; have HQ6 := Aside0.mk ho; have HP6 := Aside0.mk (Kd.R_over (by first | exact HPc.out | exact Kd.R_alloc HPc.out _) (by first | exact HQc.out | exact Kd.R_alloc HQc.out _) (by decide) hg); have HB6 := Aside0.mk (Below.trans (by first | exact HBc.out | exact below_alloc HBc.out _) (hb.mono (by omega))); clear ho hb hg hat))
                          go_roundw
                          case rel =>
                            refine ⟨k + 1, _, by omega, by go_num, HP6, HQ6, HB6, ⟨?_⟩⟩
                            rw [← HE.out, HS.out, if_neg (by simp [HN10.out]), if_pos (by simp [HM.out]), List.append_assoc]
                          case measure => simp [intOf]; omega
                        | false =>
                          have c4 : ¬ yr ≥ 4352 := by intro h; unfold oth at hl; rw [if_neg (by omega), if_neg (by omega), if_neg (by omega)] at hl; cases hl
                          have HPL : Aside0 (∀ w, Calls Try.prog 67 #[.int .i32 yr] w fun e w' => e = .returned (.bool false) ∧ Below w.heap.size w w') := ⟨fun w => (show oth yr = false from hl) ▸ plain_calls yr w⟩
                          have x32 : (xr == 32) = false := by first | (simp; omega) | simp
                          have x45 : (xr == 45) = false := by first | (simp; omega) | simp
                          have xf : decide (4352 ≤ xr) = true := by first | (simp; omega) | simp
                          have yf : decide (4352 ≤ yr) = false := by first | (simp; omega) | simp
                          have HM : Aside0 (mayB xr yr = false) := ⟨by unfold mayB wid; rw [if_neg c1, if_neg c2, if_neg (by simp [hl]), if_neg c4]⟩
                          (try clear h10); (try clear c1); (try clear c2); (try clear c3); (try clear c4)
                          go_wp2_with (first | (go_at_call 60; (with_reducible refine (HK.out _).mono ?_); rintro e w3 ⟨rfl, hb⟩; have n0_ := Aside0.mk (blk_below (blk_new wr _) hb); have n2_ := Aside0.mk (Kd.R_below (Kd.R_alloc HP.out _) hb); have n3_ := Aside0.mk (Kd.R_below (Kd.R_alloc HQ.out _) hb); have n4_ := Aside0.mk (below_step (below_alloc HBq.out _) hb); have n5_ := Aside0.mk (below_step (below_alloc (Below.refl _ _) _) hb); have HX := n0_; have HPc := n2_; have HQc := n3_; have HBc := n4_; have hX0 := (blk_cell HX.out 0).trans rfl; have hX1 := (blk_cell HX.out 1).trans rfl; have hXs := blk_lt HX.out; have hy0c := (n5_.out.cell (World.block_lt_of_cell? wr _ hy0)).trans hy0; have hy1c := (n5_.out.cell (World.block_lt_of_cell? wr _ hy1)).trans hy1; clear hb n0_ n2_ n3_ n4_ n5_) | (go_at_call 67; (with_reducible refine (HPL.out _).mono ?_); rintro e w5 ⟨rfl, hb⟩; have n0_ := Aside0.mk (blk_below (by first | exact HX.out | exact blk_alloc HX.out _) hb); have n1_ := Aside0.mk (blk_below (by first | exact HY.out | exact blk_new _ _) hb); have n2_ := Aside0.mk (Kd.R_below (by first | exact HPc.out | exact Kd.R_alloc HPc.out _) hb); have n3_ := Aside0.mk (Kd.R_below (by first | exact HQc.out | exact Kd.R_alloc HQc.out _) hb); have n4_ := Aside0.mk (below_step (by first | exact HBc.out | exact below_alloc HBc.out _) hb); clear HX HPc HQc HBc; (try clear HY); have HX := n0_; have HY := n1_; have HPc := n2_; have HQc := n3_; have HBc := n4_; have hX0 := (blk_cell HX.out 0).trans rfl; have hX1 := (blk_cell HX.out 1).trans rfl; have hY0 := (blk_cell HY.out 0).trans rfl; have hY1 := (blk_cell HY.out 1).trans rfl; clear hb n0_ n1_ n2_ n3_ n4_))
                          go_roundw
                          case rel =>
                            refine ⟨k + 1, _, by omega, by go_num, ⟨by first | exact HPc.out | exact Kd.R_alloc HPc.out _⟩, ⟨by first | exact HQc.out | exact Kd.R_alloc HQc.out _⟩, ⟨by first | exact HBc.out | exact below_alloc HBc.out _⟩, ⟨?_⟩⟩
                            rw [← HE.out, HS.out, if_neg (by simp [HN10.out]), if_neg (by simp [HM.out])]
                            rfl
                          case measure => simp [intOf]; omega
                      · by_cases c4 : yr ≥ 4352
                        · cases hl : oth xr with
                          | true =>
                            have HPL : Aside0 (∀ w, Calls Try.prog 67 #[.int .i32 xr] w fun e w' => e = .returned (.bool true) ∧ Below w.heap.size w w') := ⟨fun w => (show oth xr = true from hl) ▸ plain_calls xr w⟩
                            have x32 : (xr == 32) = false := by first | (simp; omega) | simp
                            have x45 : (xr == 45) = false := by first | (simp; omega) | simp
                            have xf : decide (4352 ≤ xr) = false := by first | (simp; omega) | simp
                            have yf : decide (4352 ≤ yr) = true := by first | (simp; omega) | simp
                            have HM : Aside0 (mayB xr yr = true) := ⟨by unfold mayB wid; rw [if_neg c1, if_neg c2, if_neg (by omega), if_pos c4]; exact hl⟩
                            (try clear h10); (try clear c1); (try clear c2); (try clear c3); (try clear c4)
                            go_wp2_with (first | (go_at_call 60; (with_reducible refine (HK.out _).mono ?_); rintro e w3 ⟨rfl, hb⟩; have n0_ := Aside0.mk (blk_below (blk_new wr _) hb); have n2_ := Aside0.mk (Kd.R_below (Kd.R_alloc HP.out _) hb); have n3_ := Aside0.mk (Kd.R_below (Kd.R_alloc HQ.out _) hb); have n4_ := Aside0.mk (below_step (below_alloc HBq.out _) hb); have n5_ := Aside0.mk (below_step (below_alloc (Below.refl _ _) _) hb); have HX := n0_; have HPc := n2_; have HQc := n3_; have HBc := n4_; have hX0 := (blk_cell HX.out 0).trans rfl; have hX1 := (blk_cell HX.out 1).trans rfl; have hXs := blk_lt HX.out; have hy0c := (n5_.out.cell (World.block_lt_of_cell? wr _ hy0)).trans hy0; have hy1c := (n5_.out.cell (World.block_lt_of_cell? wr _ hy1)).trans hy1; clear hb n0_ n2_ n3_ n4_ n5_) | (go_at_call 67; (with_reducible refine (HPL.out _).mono ?_); rintro e w5 ⟨rfl, hb⟩; have n0_ := Aside0.mk (blk_below (by first | exact HX.out | exact blk_alloc HX.out _) hb); have n1_ := Aside0.mk (blk_below (by first | exact HY.out | exact blk_new _ _) hb); have n2_ := Aside0.mk (Kd.R_below (by first | exact HPc.out | exact Kd.R_alloc HPc.out _) hb); have n3_ := Aside0.mk (Kd.R_below (by first | exact HQc.out | exact Kd.R_alloc HQc.out _) hb); have n4_ := Aside0.mk (below_step (by first | exact HBc.out | exact below_alloc HBc.out _) hb); clear HX HPc HQc HBc; (try clear HY); have HX := n0_; have HY := n1_; have HPc := n2_; have HQc := n3_; have HBc := n4_; have hX0 := (blk_cell HX.out 0).trans rfl; have hX1 := (blk_cell HX.out 1).trans rfl; have hY0 := (blk_cell HY.out 0).trans rfl; have hY1 := (blk_cell HY.out 1).trans rfl; clear hb n0_ n1_ n2_ n3_ n4_) | ((with_reducible refine gate_builtin (b := .append) (xs := #[.tmp 112, .tmp 117]) rfl ?_); at_builtin; refine Kd.R_append k46 (w.heap.size + 1) rfl (.tmp 112) (.tmp 117) 47 46 (.agg #[(.int .i64 0), (.bool false)]) 16 rfl Try.underlying47 info46 rfl (by decide) (by omega) u10 out2 (⟨ya, false⟩ : S46) [.int .i64 ya, .bool false] (fun _ => True) (fun _ => False) rfl ?aX ?aP (fun _ hk => hk.elim) ?aF ?aO (Below.refl _ _) ?aS ?aL ?_; (case aX => first | rfl | (go_simp; done) | (go_simp; rfl)); (case aP => exact k46_mkM _ _ _ (⟨ya, false⟩ : S46)); (case aF => exact (fun _ _ => trivial)); (case aO => exact (by first | exact HQc.out | exact Kd.R_alloc HQc.out _)); (case aS => have h1 := HSz.out; have h2 := HBc.out.size; have h3 := blk_lt HX.out; (try simp only [World.size_alloc]); omega); (case aL => have := HLo.out; omega); intro v6 w6 ho hb hg hat; have HQ6 := Aside0.mk ho; have HP6 := Aside0.mk (Kd.R_over (by first | exact HPc.out | exact Kd.R_alloc HPc.out _) (by first | exact HQc.out | exact Kd.R_alloc HQc.out _) (by decide) hg); have HB6 := Aside0.mk (Below.trans (by first | exact HBc.out | exact below_alloc HBc.out _) (hb.mono (by omega))); clear ho hb hg hat))
                            go_roundw
                            case rel =>
                              refine ⟨k + 1, _, by omega, by go_num, HP6, HQ6, HB6, ⟨?_⟩⟩
                              rw [← HE.out, HS.out, if_neg (by simp [HN10.out]), if_pos (by simp [HM.out]), List.append_assoc]
                            case measure => simp [intOf]; omega
                          | false =>
                            have HPL : Aside0 (∀ w, Calls Try.prog 67 #[.int .i32 xr] w fun e w' => e = .returned (.bool false) ∧ Below w.heap.size w w') := ⟨fun w => (show oth xr = false from hl) ▸ plain_calls xr w⟩
                            have x32 : (xr == 32) = false := by first | (simp; omega) | simp
                            have x45 : (xr == 45) = false := by first | (simp; omega) | simp
                            have xf : decide (4352 ≤ xr) = false := by first | (simp; omega) | simp
                            have yf : decide (4352 ≤ yr) = true := by first | (simp; omega) | simp
                            have HM : Aside0 (mayB xr yr = false) := ⟨by unfold mayB wid; rw [if_neg c1, if_neg c2, if_neg (by omega), if_pos c4]; exact hl⟩
                            (try clear h10); (try clear c1); (try clear c2); (try clear c3); (try clear c4)
                            go_wp2_with (first | (go_at_call 60; (with_reducible refine (HK.out _).mono ?_); rintro e w3 ⟨rfl, hb⟩; have n0_ := Aside0.mk (blk_below (blk_new wr _) hb); have n2_ := Aside0.mk (Kd.R_below (Kd.R_alloc HP.out _) hb); have n3_ := Aside0.mk (Kd.R_below (Kd.R_alloc HQ.out _) hb); have n4_ := Aside0.mk (below_step (below_alloc HBq.out _) hb); have n5_ := Aside0.mk (below_step (below_alloc (Below.refl _ _) _) hb); have HX := n0_; have HPc := n2_; have HQc := n3_; have HBc := n4_; have hX0 := (blk_cell HX.out 0).trans rfl; have hX1 := (blk_cell HX.out 1).trans rfl; have hXs := blk_lt HX.out; have hy0c := (n5_.out.cell (World.block_lt_of_cell? wr _ hy0)).trans hy0; have hy1c := (n5_.out.cell (World.block_lt_of_cell? wr _ hy1)).trans hy1; clear hb n0_ n2_ n3_ n4_ n5_) | (go_at_call 67; (with_reducible refine (HPL.out _).mono ?_); rintro e w5 ⟨rfl, hb⟩; have n0_ := Aside0.mk (blk_below (by first | exact HX.out | exact blk_alloc HX.out _) hb); have n1_ := Aside0.mk (blk_below (by first | exact HY.out | exact blk_new _ _) hb); have n2_ := Aside0.mk (Kd.R_below (by first | exact HPc.out | exact Kd.R_alloc HPc.out _) hb); have n3_ := Aside0.mk (Kd.R_below (by first | exact HQc.out | exact Kd.R_alloc HQc.out _) hb); have n4_ := Aside0.mk (below_step (by first | exact HBc.out | exact below_alloc HBc.out _) hb); clear HX HPc HQc HBc; (try clear HY); have HX := n0_; have HY := n1_; have HPc := n2_; have HQc := n3_; have HBc := n4_; have hX0 := (blk_cell HX.out 0).trans rfl; have hX1 := (blk_cell HX.out 1).trans rfl; have hY0 := (blk_cell HY.out 0).trans rfl; have hY1 := (blk_cell HY.out 1).trans rfl; clear hb n0_ n1_ n2_ n3_ n4_))
                            go_roundw
                            case rel =>
                              refine ⟨k + 1, _, by omega, by go_num, ⟨by first | exact HPc.out | exact Kd.R_alloc HPc.out _⟩, ⟨by first | exact HQc.out | exact Kd.R_alloc HQc.out _⟩, ⟨by first | exact HBc.out | exact below_alloc HBc.out _⟩, ⟨?_⟩⟩
                              rw [← HE.out, HS.out, if_neg (by simp [HN10.out]), if_neg (by simp [HM.out])]
                              rfl
                            case measure => simp [intOf]; omega
                        · have HN2 := Aside0.mk c4
                          have x32 : (xr == 32) = false := by first | (simp; omega) | simp
                          have x45 : (xr == 45) = false := by first | (simp; omega) | simp
                          have xf : decide (4352 ≤ xr) = false := by first | (simp; omega) | simp
                          have yf : decide (4352 ≤ yr) = false := by first | (simp; omega) | simp
                          have HM : Aside0 (mayB xr yr = false) := ⟨by unfold mayB wid; rw [if_neg c1, if_neg c2, if_neg (by omega), if_neg c4]⟩
                          (try clear h10); (try clear c1); (try clear c2); (try clear c3); (try clear c4)
                          go_wp2_with (first | (go_at_call 60; (with_reducible refine (HK.out _).mono ?_); rintro e w3 ⟨rfl, hb⟩; have n0_ := Aside0.mk (blk_below (blk_new wr _) hb); have n2_ := Aside0.mk (Kd.R_below (Kd.R_alloc HP.out _) hb); have n3_ := Aside0.mk (Kd.R_below (Kd.R_alloc HQ.out _) hb); have n4_ := Aside0.mk (below_step (below_alloc HBq.out _) hb); have n5_ := Aside0.mk (below_step (below_alloc (Below.refl _ _) _) hb); have HX := n0_; have HPc := n2_; have HQc := n3_; have HBc := n4_; have hX0 := (blk_cell HX.out 0).trans rfl; have hX1 := (blk_cell HX.out 1).trans rfl; have hXs := blk_lt HX.out; have hy0c := (n5_.out.cell (World.block_lt_of_cell? wr _ hy0)).trans hy0; have hy1c := (n5_.out.cell (World.block_lt_of_cell? wr _ hy1)).trans hy1; clear hb n0_ n2_ n3_ n4_ n5_))
                          go_roundw
                          case rel =>
                            refine ⟨k + 1, _, by omega, by go_num, ⟨by first | exact HPc.out | exact Kd.R_alloc HPc.out _⟩, ⟨by first | exact HQc.out | exact Kd.R_alloc HQc.out _⟩, ⟨by first | exact HBc.out | exact below_alloc HBc.out _⟩, ⟨?_⟩⟩
                            rw [← HE.out, HS.out, if_neg (by simp [HN10.out]), if_neg (by simp [HM.out])]
                            rfl
                          case measure => simp [intOf]; omega
            · obtain rfl : W = false := by rw [← HW_.out]; first | rfl | (unfold wrapsB; simp [m0, m3])
              obtain rfl : K = false := by rw [← HK_.out]; first | rfl | (unfold keepsB; simp [m1, m3])
              have m0b : (a1 == 0) = false := beq_eq_false_iff_ne.mpr m0
              have m1b : (a1 == 1) = false := beq_eq_false_iff_ne.mpr m1
              have m3b : (a1 == 3) = false := beq_eq_false_iff_ne.mpr m3
              clear m0 m1 m3
              by_cases hend : k + 1 = out.length
              · have HS := Aside0.mk (from_last false false a0.size out k hend)
                have hendb : ((k : Int) + 1 == (out.length : Int)) = true := beq_iff_eq.mpr (by omega)
                rw [hxr] at HS
                clear hend
                have h10 : True := trivial
                have HN10 := Aside0.mk h10
                clear h10
                go_wp2_with (go_at_call 60; (with_reducible refine (HK.out _).mono ?_); rintro e w3 ⟨rfl, hb⟩; have n0_ := Aside0.mk (blk_below (blk_new wr _) hb); have n2_ := Aside0.mk (Kd.R_below (Kd.R_alloc HP.out _) hb); have n3_ := Aside0.mk (Kd.R_below (Kd.R_alloc HQ.out _) hb); have n4_ := Aside0.mk (below_step (below_alloc HBq.out _) hb); have n5_ := Aside0.mk (below_step (below_alloc (Below.refl _ _) _) hb); have HX := n0_; have HPc := n2_; have HQc := n3_; have HBc := n4_; have hX0 := (blk_cell HX.out 0).trans rfl; have hX1 := (blk_cell HX.out 1).trans rfl; have hXs := blk_lt HX.out; clear hb n0_ n2_ n3_ n4_ n5_)
                go_roundw
                case rel =>
                  refine ⟨k + 1, _, by omega, by go_num, ⟨by first | exact HPc.out | exact Kd.R_alloc HPc.out _⟩, ⟨by first | exact HQc.out | exact Kd.R_alloc HQc.out _⟩, ⟨by first | exact HBc.out | exact below_alloc HBc.out _⟩, ⟨?_⟩⟩
                  rw [← HE.out, HS.out, if_neg (by simp [HN10.out])]
                  rfl
                case measure => simp [intOf]; omega
              · have HS := Aside0.mk (from_step false false a0.size out k (by omega))
                obtain ⟨ad2, e6, hy0, hy1⟩ := at_T92 (Kd.R_reads' HP.out).2.2 (k + 1) (by omega)
                cases e6
                have hendb : ((k : Int) + 1 == (out.length : Int)) = false := beq_eq_false_iff_ne.mpr (by omega)
                obtain ⟨yr, hyr⟩ : ∃ q, (rdP out (k + 1)).2 = q := ⟨_, rfl⟩
                obtain ⟨ya, hya⟩ : ∃ q, (rdP out (k + 1)).1 = q := ⟨_, rfl⟩
                rw [hyr] at hy0
                rw [hya] at hy1
                rw [hxr, hyr, hya] at HS
                clear hyr hya
                have h10 : True := trivial
                have HN10 := Aside0.mk h10
                (try clear h10); (try clear c1); (try clear c2); (try clear c3); (try clear c4)
                go_wp2_with (first | (go_at_call 60; (with_reducible refine (HK.out _).mono ?_); rintro e w3 ⟨rfl, hb⟩; have n0_ := Aside0.mk (blk_below (blk_new wr _) hb); have n2_ := Aside0.mk (Kd.R_below (Kd.R_alloc HP.out _) hb); have n3_ := Aside0.mk (Kd.R_below (Kd.R_alloc HQ.out _) hb); have n4_ := Aside0.mk (below_step (below_alloc HBq.out _) hb); have n5_ := Aside0.mk (below_step (below_alloc (Below.refl _ _) _) hb); have HX := n0_; have HPc := n2_; have HQc := n3_; have HBc := n4_; have hX0 := (blk_cell HX.out 0).trans rfl; have hX1 := (blk_cell HX.out 1).trans rfl; have hXs := blk_lt HX.out; have hy0c := (n5_.out.cell (World.block_lt_of_cell? wr _ hy0)).trans hy0; have hy1c := (n5_.out.cell (World.block_lt_of_cell? wr _ hy1)).trans hy1; clear hb n0_ n2_ n3_ n4_ n5_))
                go_roundw
                case rel =>
                  refine ⟨k + 1, _, by omega, by go_num, ⟨by first | exact HPc.out | exact Kd.R_alloc HPc.out _⟩, ⟨by first | exact HQc.out | exact Kd.R_alloc HQc.out _⟩, ⟨by first | exact HBc.out | exact below_alloc HBc.out _⟩, ⟨?_⟩⟩
                  rw [← HE.out, HS.out, if_neg (by simp [HN10.out]), if_neg (by simp)]
                  rfl
                case measure => simp [intOf]; omega
          · obtain rfl : k = out.length := by omega
            go_wp2
            go_ret
            refine ⟨_, rfl, ?_, HBq.out⟩
            have h1 := HE.out
            rw [from_end, List.append_nil] at h1
            rw [← h1]
            exact Kd.R_lower HQ.out (by omega)
  · rw [if_neg hs] at h
    cases h
end Go.Proofs.Ytdmkofbndeicfaa.QBreaks
