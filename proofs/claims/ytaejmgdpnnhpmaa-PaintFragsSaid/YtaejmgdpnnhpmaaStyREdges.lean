/- The reference's Edges, walked by hand. -/
import Derived.Test.YtaejmgdpnnhpmaaStyLen
namespace Go.Proofs.Ytaejmgdpnnhpmaa.QSty
open Go.RowKit Go.Proofs.YtaejmgdpnnhpmaaW.PrintWords Go.Proofs.YtaejmgdpnnhpmaaW.PrintLast Go.Proofs.YtaejmgdpnnhpmaaW.PrintMore
set_option linter.unusedVariables false
set_option linter.unusedSimpArgs false
theorem wrap_ok (n : Int) (h0 : -1000 ≤ n) (h1 : n ≤ 1000) : IntKind.i64.wrap n = n := IntWalk.i64_in _ (by omega)
def up (ab : Bool) (e : Int) : Int := cond ab (mx 0 e) e
def edgU (ab : Bool) (xs : List Int) (p room : Int) : Value := agg4 (up ab (edg1 xs p room)) (up ab (edg1 xs (p + 1) room)) (up ab (edg1 xs (p + 2) room)) (up ab (edg1 xs (p + 3) room))
theorem up_neg {e : Int} (h : e < 0) : up true e = 0 := by unfold up mx; simp; omega
theorem up_pos {e : Int} (h : ¬ e < 0) : up true e = e := by unfold up mx; simp; omega
set_option maxHeartbeats 8000000 in
set_option maxRecDepth 100000 in
theorem clerestoryref3_Edges.calls (xs : List Int) (p room : Int) (ab : Bool) (hl : xs.length = 118) (hp0 : 0 ≤ p) (hp1 : p ≤ 55) (w : World) :
    Calls Try.prog 17 #[sty xs, .int .i64 p, .int .i64 room, .bool ab] w fun e w' => e = .returned (edgU ab xs p room) ∧ Below w.heap.size w w' := by
  have C0 := fun w => clerestoryref3_length.calls xs p room hl (by omega) (by omega) w
  have C1 := fun w => clerestoryref3_length.calls xs (p + 1) room hl (by omega) (by omega) w
  have C2 := fun w => clerestoryref3_length.calls xs (p + 2) room hl (by omega) (by omega) w
  have C3 := fun w => clerestoryref3_length.calls xs (p + 3) room hl (by omega) (by omega) w
  have x1 : IntKind.i64.wrap (p + 1) = p + 1 := wrap_ok _ (by omega) (by omega)
  have x2 : IntKind.i64.wrap (p + 2) = p + 2 := wrap_ok _ (by omega) (by omega)
  have x3 : IntKind.i64.wrap (p + 3) = p + 3 := wrap_ok _ (by omega) (by omega)
  have x0 : IntKind.i64.wrap p = p := wrap_ok _ (by omega) (by omega)
  unfold edgU agg4
  obtain ⟨e0, he0⟩ : ∃ e, edg1 xs p room = e := ⟨_, rfl⟩
  obtain ⟨e1, he1⟩ : ∃ e, edg1 xs (p + 1) room = e := ⟨_, rfl⟩
  obtain ⟨e2, he2⟩ : ∃ e, edg1 xs (p + 2) room = e := ⟨_, rfl⟩
  obtain ⟨e3, he3⟩ : ∃ e, edg1 xs (p + 3) room = e := ⟨_, rfl⟩
  rw [he0] at C0 ⊢
  rw [he1] at C1 ⊢
  rw [he2] at C2 ⊢
  rw [he3] at C3 ⊢
  clear he0 he1 he2 he3
  obtain ⟨m0, hm0⟩ : ∃ e, up ab e0 = e := ⟨_, rfl⟩
  obtain ⟨m1, hm1⟩ : ∃ e, up ab e1 = e := ⟨_, rfl⟩
  obtain ⟨m2, hm2⟩ : ∃ e, up ab e2 = e := ⟨_, rfl⟩
  obtain ⟨m3, hm3⟩ : ∃ e, up ab e3 = e := ⟨_, rfl⟩
  rw [hm0, hm1, hm2, hm3]
  unfold sty at *
  obtain ⟨a, ha⟩ : ∃ a, (nums .i64 xs).toArray = a := ⟨_, rfl⟩
  have hsz : a.size = 118 := by rw [← ha]; simp [nums, hl]
  rw [ha] at C0 C1 C2 C3 ⊢
  have HC0 := Aside0.mk C0
  have HC1 := Aside0.mk C1
  have HC2 := Aside0.mk C2
  have HC3 := Aside0.mk C3
  have HM0 := Aside0.mk hm0
  have HM1 := Aside0.mk hm1
  have HM2 := Aside0.mk hm2
  have HM3 := Aside0.mk hm3
  have HX := Aside0.mk (And.intro x0 (And.intro x1 (And.intro x2 x3)))
  clear C0 C1 C2 C3 hm0 hm1 hm2 hm3 x0 x1 x2 x3 hp0 hp1 ha hl
  have HB := Aside0.mk (Below.refl w.heap.size w)
  go_enter Try.func17, Try.ntmps17
  go_wp2_with (first
    | ((with_reducible refine gate_dst (N := 4) rfl ?_); refine box_event rfl (N := 4) rfl (cs := a) (t := 25) (by first | (go_simp; done) | (go_simp; rfl)) ?_; intro gs hgs w1 hbx hb; have HS := Aside0.mk hbx; have HGs := Aside0.mk hgs; have HB1 := Aside0.mk (below_step HB.out hb); clear hgs hbx hb)
    | ((with_reducible refine gate_dst (N := 8) rfl ?_); refine box_event rfl (N := 8) rfl (cs := #[.int .i64 0, .int .i64 0, .int .i64 0, .int .i64 0]) (t := 28) (by first | (go_simp; done) | (go_simp; rfl)) ?_; intro gr hgr w3 hbx hb; have HR := Aside0.mk hbx; have HGr := Aside0.mk hgr; have HS3 := Aside0.mk (blk_below HS.out hb); have HB3 := Aside0.mk (below_step HB1.out hb); clear hgr hbx hb)
    | ((with_reducible refine gate_dst (N := 9) rfl ?_); refine box_event rfl (N := 9) rfl (cs := #[.int .i64 0, .int .i64 0, .int .i64 0, .int .i64 0]) (t := 26) (by first | (go_simp; done) | (go_simp; rfl)) ?_; intro gn hgn w4 hbx hb; have HN := Aside0.mk hbx; have HGn := Aside0.mk hgn; have HS4 := Aside0.mk (blk_below HS3.out hb); have HR4 := Aside0.mk (blk_below HR.out hb); have HB4 := Aside0.mk (below_step HB3.out hb); clear hgn hbx hb))
  have HRB := Aside0.mk (show w.heap.size ≤ gr ∧ w.heap.size ≤ gn ∧ gs ≠ gn ∧ gr ≠ gn from by
    have h1 := HB1.out.size; have h2 := HB3.out.size; have h3 := HGr.out; have h4 := HGn.out; have h5 := blk_lt HS3.out; have h6 := blk_lt HR.out
    exact ⟨by omega, by omega, by omega, by omega⟩)
  go_loopw [11] (fun i wr => ∃ k : Nat, k ≤ 4 ∧ i = .int .i64 k ∧ Aside0 (wr.heap[gn]? = some (.cells (st4 k m0 m1 m2 m3) 26 (0, 0))) ∧ Aside0 (wr.heap[gs]? = some (.cells a 25 (0, 0))) ∧ Aside0 (wr.heap[gr]? = some (.cells #[.int .i64 0, .int .i64 0, .int .i64 0, .int .i64 0] 28 (0, 0))) ∧ Aside0 (Below w.heap.size w wr)) (fun i _ => 4 - (intOf i).toNat)
  case atStart => exact ⟨0, by omega, rfl, HN, HS4, HR4, HB4⟩
  case round =>
    obtain ⟨k, hk, rfl, HNr, HSr, HRr, HBr⟩ := hrel
    rcases (by omega : k = 0 ∨ k = 1 ∨ k = 2 ∨ k = 3 ∨ k = 4) with rfl | rfl | rfl | rfl | rfl
    · have hn0 := (blk_cell HNr.out 0).trans rfl
      have hnf := blk_frozen HNr.out 0
      have x := HX.out.1
      rcases (by cases ab <;> simp : ab = false ∨ ab = true) with rfl | rfl
      · have HE : Aside0 (e0 = m0) := ⟨HM0.out⟩
        go_wp2_with (first | ((with_reducible refine gate_dst (N := 15) rfl ?_); refine wpList_load_row rfl 25 _ rfl gs rfl 25 _ (0, 0) _ HSr.out Try.underlying25 rfl (by rw [hsz]; kernel_rfl) ?_) | (go_at_call 50; (with_reducible refine (HC0.out _).mono ?_); rintro e w5 ⟨rfl, hb⟩; have HN5 := Aside0.mk (blk_below HNr.out hb); have HS5 := Aside0.mk (blk_below HSr.out hb); have HR5 := Aside0.mk (blk_below HRr.out hb); have HB5 := Aside0.mk (below_step HBr.out hb); clear hb; have hn5 := (blk_cell HN5.out 0).trans rfl; have hf5 := blk_frozen HN5.out 0))
        go_roundw
        case rel => exact ⟨1, by omega, by go_num, ⟨by have h2 := HE.out; rw [← h2]; exact blk_put HN5.out 0 (.int .i64 e0) (by simp [st4])⟩, ⟨blk_far (HS5.out) HRB.out.2.2.1 _⟩, ⟨blk_far (HR5.out) HRB.out.2.2.2 _⟩, ⟨(HB5.out).setCell HRB.out.2.1 _⟩⟩
        case measure => simp [intOf]
      · by_cases cn : e0 < 0
        · have HE : Aside0 (0 = m0) := ⟨(up_neg cn).symm.trans HM0.out⟩
          have cb : decide (e0 < 0) = true := decide_eq_true cn
          clear cn
          go_wp2_with (first | ((with_reducible refine gate_dst (N := 15) rfl ?_); refine wpList_load_row rfl 25 _ rfl gs rfl 25 _ (0, 0) _ HSr.out Try.underlying25 rfl (by rw [hsz]; kernel_rfl) ?_) | (go_at_call 50; (with_reducible refine (HC0.out _).mono ?_); rintro e w5 ⟨rfl, hb⟩; have HN5 := Aside0.mk (blk_below HNr.out hb); have HS5 := Aside0.mk (blk_below HSr.out hb); have HR5 := Aside0.mk (blk_below HRr.out hb); have HB5 := Aside0.mk (below_step HBr.out hb); clear hb; have hn5 := (blk_cell HN5.out 0).trans rfl; have hf5 := blk_frozen HN5.out 0))
          go_roundw
          case rel => exact ⟨1, by omega, by go_num, ⟨by have h2 := HE.out; rw [← h2]; exact blk_put (blk_put HN5.out 0 (.int .i64 e0) rfl) 0 (.int .i64 0) (by simp [st4])⟩, ⟨blk_far (blk_far (HS5.out) HRB.out.2.2.1 _) HRB.out.2.2.1 _⟩, ⟨blk_far (blk_far (HR5.out) HRB.out.2.2.2 _) HRB.out.2.2.2 _⟩, ⟨((HB5.out).setCell HRB.out.2.1 _).setCell HRB.out.2.1 _⟩⟩
          case measure => simp [intOf]
        · have HE : Aside0 (e0 = m0) := ⟨(up_pos cn).symm.trans HM0.out⟩
          have cb : decide (e0 < 0) = false := decide_eq_false cn
          clear cn
          go_wp2_with (first | ((with_reducible refine gate_dst (N := 15) rfl ?_); refine wpList_load_row rfl 25 _ rfl gs rfl 25 _ (0, 0) _ HSr.out Try.underlying25 rfl (by rw [hsz]; kernel_rfl) ?_) | (go_at_call 50; (with_reducible refine (HC0.out _).mono ?_); rintro e w5 ⟨rfl, hb⟩; have HN5 := Aside0.mk (blk_below HNr.out hb); have HS5 := Aside0.mk (blk_below HSr.out hb); have HR5 := Aside0.mk (blk_below HRr.out hb); have HB5 := Aside0.mk (below_step HBr.out hb); clear hb; have hn5 := (blk_cell HN5.out 0).trans rfl; have hf5 := blk_frozen HN5.out 0))
          go_roundw
          case rel => exact ⟨1, by omega, by go_num, ⟨by have h2 := HE.out; rw [← h2]; exact blk_put HN5.out 0 (.int .i64 e0) (by simp [st4])⟩, ⟨blk_far (HS5.out) HRB.out.2.2.1 _⟩, ⟨blk_far (HR5.out) HRB.out.2.2.2 _⟩, ⟨(HB5.out).setCell HRB.out.2.1 _⟩⟩
          case measure => simp [intOf]
    · have hn0 := (blk_cell HNr.out 1).trans rfl
      have hnf := blk_frozen HNr.out 1
      have x := HX.out.2.1
      rcases (by cases ab <;> simp : ab = false ∨ ab = true) with rfl | rfl
      · have HE : Aside0 (e1 = m1) := ⟨HM1.out⟩
        go_wp2_with (first | ((with_reducible refine gate_dst (N := 15) rfl ?_); refine wpList_load_row rfl 25 _ rfl gs rfl 25 _ (0, 0) _ HSr.out Try.underlying25 rfl (by rw [hsz]; kernel_rfl) ?_) | (go_at_call 50; (with_reducible refine (HC1.out _).mono ?_); rintro e w5 ⟨rfl, hb⟩; have HN5 := Aside0.mk (blk_below HNr.out hb); have HS5 := Aside0.mk (blk_below HSr.out hb); have HR5 := Aside0.mk (blk_below HRr.out hb); have HB5 := Aside0.mk (below_step HBr.out hb); clear hb; have hn5 := (blk_cell HN5.out 1).trans rfl; have hf5 := blk_frozen HN5.out 1))
        go_roundw
        case rel => exact ⟨2, by omega, by go_num, ⟨by have h2 := HE.out; rw [← h2]; exact blk_put HN5.out 1 (.int .i64 e1) (by simp [st4])⟩, ⟨blk_far (HS5.out) HRB.out.2.2.1 _⟩, ⟨blk_far (HR5.out) HRB.out.2.2.2 _⟩, ⟨(HB5.out).setCell HRB.out.2.1 _⟩⟩
        case measure => simp [intOf]
      · by_cases cn : e1 < 0
        · have HE : Aside0 (0 = m1) := ⟨(up_neg cn).symm.trans HM1.out⟩
          have cb : decide (e1 < 0) = true := decide_eq_true cn
          clear cn
          go_wp2_with (first | ((with_reducible refine gate_dst (N := 15) rfl ?_); refine wpList_load_row rfl 25 _ rfl gs rfl 25 _ (0, 0) _ HSr.out Try.underlying25 rfl (by rw [hsz]; kernel_rfl) ?_) | (go_at_call 50; (with_reducible refine (HC1.out _).mono ?_); rintro e w5 ⟨rfl, hb⟩; have HN5 := Aside0.mk (blk_below HNr.out hb); have HS5 := Aside0.mk (blk_below HSr.out hb); have HR5 := Aside0.mk (blk_below HRr.out hb); have HB5 := Aside0.mk (below_step HBr.out hb); clear hb; have hn5 := (blk_cell HN5.out 1).trans rfl; have hf5 := blk_frozen HN5.out 1))
          go_roundw
          case rel => exact ⟨2, by omega, by go_num, ⟨by have h2 := HE.out; rw [← h2]; exact blk_put (blk_put HN5.out 1 (.int .i64 e1) rfl) 1 (.int .i64 0) (by simp [st4])⟩, ⟨blk_far (blk_far (HS5.out) HRB.out.2.2.1 _) HRB.out.2.2.1 _⟩, ⟨blk_far (blk_far (HR5.out) HRB.out.2.2.2 _) HRB.out.2.2.2 _⟩, ⟨((HB5.out).setCell HRB.out.2.1 _).setCell HRB.out.2.1 _⟩⟩
          case measure => simp [intOf]
        · have HE : Aside0 (e1 = m1) := ⟨(up_pos cn).symm.trans HM1.out⟩
          have cb : decide (e1 < 0) = false := decide_eq_false cn
          clear cn
          go_wp2_with (first | ((with_reducible refine gate_dst (N := 15) rfl ?_); refine wpList_load_row rfl 25 _ rfl gs rfl 25 _ (0, 0) _ HSr.out Try.underlying25 rfl (by rw [hsz]; kernel_rfl) ?_) | (go_at_call 50; (with_reducible refine (HC1.out _).mono ?_); rintro e w5 ⟨rfl, hb⟩; have HN5 := Aside0.mk (blk_below HNr.out hb); have HS5 := Aside0.mk (blk_below HSr.out hb); have HR5 := Aside0.mk (blk_below HRr.out hb); have HB5 := Aside0.mk (below_step HBr.out hb); clear hb; have hn5 := (blk_cell HN5.out 1).trans rfl; have hf5 := blk_frozen HN5.out 1))
          go_roundw
          case rel => exact ⟨2, by omega, by go_num, ⟨by have h2 := HE.out; rw [← h2]; exact blk_put HN5.out 1 (.int .i64 e1) (by simp [st4])⟩, ⟨blk_far (HS5.out) HRB.out.2.2.1 _⟩, ⟨blk_far (HR5.out) HRB.out.2.2.2 _⟩, ⟨(HB5.out).setCell HRB.out.2.1 _⟩⟩
          case measure => simp [intOf]
    · have hn0 := (blk_cell HNr.out 2).trans rfl
      have hnf := blk_frozen HNr.out 2
      have x := HX.out.2.2.1
      rcases (by cases ab <;> simp : ab = false ∨ ab = true) with rfl | rfl
      · have HE : Aside0 (e2 = m2) := ⟨HM2.out⟩
        go_wp2_with (first | ((with_reducible refine gate_dst (N := 15) rfl ?_); refine wpList_load_row rfl 25 _ rfl gs rfl 25 _ (0, 0) _ HSr.out Try.underlying25 rfl (by rw [hsz]; kernel_rfl) ?_) | (go_at_call 50; (with_reducible refine (HC2.out _).mono ?_); rintro e w5 ⟨rfl, hb⟩; have HN5 := Aside0.mk (blk_below HNr.out hb); have HS5 := Aside0.mk (blk_below HSr.out hb); have HR5 := Aside0.mk (blk_below HRr.out hb); have HB5 := Aside0.mk (below_step HBr.out hb); clear hb; have hn5 := (blk_cell HN5.out 2).trans rfl; have hf5 := blk_frozen HN5.out 2))
        go_roundw
        case rel => exact ⟨3, by omega, by go_num, ⟨by have h2 := HE.out; rw [← h2]; exact blk_put HN5.out 2 (.int .i64 e2) (by simp [st4])⟩, ⟨blk_far (HS5.out) HRB.out.2.2.1 _⟩, ⟨blk_far (HR5.out) HRB.out.2.2.2 _⟩, ⟨(HB5.out).setCell HRB.out.2.1 _⟩⟩
        case measure => simp [intOf]
      · by_cases cn : e2 < 0
        · have HE : Aside0 (0 = m2) := ⟨(up_neg cn).symm.trans HM2.out⟩
          have cb : decide (e2 < 0) = true := decide_eq_true cn
          clear cn
          go_wp2_with (first | ((with_reducible refine gate_dst (N := 15) rfl ?_); refine wpList_load_row rfl 25 _ rfl gs rfl 25 _ (0, 0) _ HSr.out Try.underlying25 rfl (by rw [hsz]; kernel_rfl) ?_) | (go_at_call 50; (with_reducible refine (HC2.out _).mono ?_); rintro e w5 ⟨rfl, hb⟩; have HN5 := Aside0.mk (blk_below HNr.out hb); have HS5 := Aside0.mk (blk_below HSr.out hb); have HR5 := Aside0.mk (blk_below HRr.out hb); have HB5 := Aside0.mk (below_step HBr.out hb); clear hb; have hn5 := (blk_cell HN5.out 2).trans rfl; have hf5 := blk_frozen HN5.out 2))
          go_roundw
          case rel => exact ⟨3, by omega, by go_num, ⟨by have h2 := HE.out; rw [← h2]; exact blk_put (blk_put HN5.out 2 (.int .i64 e2) rfl) 2 (.int .i64 0) (by simp [st4])⟩, ⟨blk_far (blk_far (HS5.out) HRB.out.2.2.1 _) HRB.out.2.2.1 _⟩, ⟨blk_far (blk_far (HR5.out) HRB.out.2.2.2 _) HRB.out.2.2.2 _⟩, ⟨((HB5.out).setCell HRB.out.2.1 _).setCell HRB.out.2.1 _⟩⟩
          case measure => simp [intOf]
        · have HE : Aside0 (e2 = m2) := ⟨(up_pos cn).symm.trans HM2.out⟩
          have cb : decide (e2 < 0) = false := decide_eq_false cn
          clear cn
          go_wp2_with (first | ((with_reducible refine gate_dst (N := 15) rfl ?_); refine wpList_load_row rfl 25 _ rfl gs rfl 25 _ (0, 0) _ HSr.out Try.underlying25 rfl (by rw [hsz]; kernel_rfl) ?_) | (go_at_call 50; (with_reducible refine (HC2.out _).mono ?_); rintro e w5 ⟨rfl, hb⟩; have HN5 := Aside0.mk (blk_below HNr.out hb); have HS5 := Aside0.mk (blk_below HSr.out hb); have HR5 := Aside0.mk (blk_below HRr.out hb); have HB5 := Aside0.mk (below_step HBr.out hb); clear hb; have hn5 := (blk_cell HN5.out 2).trans rfl; have hf5 := blk_frozen HN5.out 2))
          go_roundw
          case rel => exact ⟨3, by omega, by go_num, ⟨by have h2 := HE.out; rw [← h2]; exact blk_put HN5.out 2 (.int .i64 e2) (by simp [st4])⟩, ⟨blk_far (HS5.out) HRB.out.2.2.1 _⟩, ⟨blk_far (HR5.out) HRB.out.2.2.2 _⟩, ⟨(HB5.out).setCell HRB.out.2.1 _⟩⟩
          case measure => simp [intOf]
    · have hn0 := (blk_cell HNr.out 3).trans rfl
      have hnf := blk_frozen HNr.out 3
      have x := HX.out.2.2.2
      rcases (by cases ab <;> simp : ab = false ∨ ab = true) with rfl | rfl
      · have HE : Aside0 (e3 = m3) := ⟨HM3.out⟩
        go_wp2_with (first | ((with_reducible refine gate_dst (N := 15) rfl ?_); refine wpList_load_row rfl 25 _ rfl gs rfl 25 _ (0, 0) _ HSr.out Try.underlying25 rfl (by rw [hsz]; kernel_rfl) ?_) | (go_at_call 50; (with_reducible refine (HC3.out _).mono ?_); rintro e w5 ⟨rfl, hb⟩; have HN5 := Aside0.mk (blk_below HNr.out hb); have HS5 := Aside0.mk (blk_below HSr.out hb); have HR5 := Aside0.mk (blk_below HRr.out hb); have HB5 := Aside0.mk (below_step HBr.out hb); clear hb; have hn5 := (blk_cell HN5.out 3).trans rfl; have hf5 := blk_frozen HN5.out 3))
        go_roundw
        case rel => exact ⟨4, by omega, by go_num, ⟨by have h2 := HE.out; rw [← h2]; exact blk_put HN5.out 3 (.int .i64 e3) (by simp [st4])⟩, ⟨blk_far (HS5.out) HRB.out.2.2.1 _⟩, ⟨blk_far (HR5.out) HRB.out.2.2.2 _⟩, ⟨(HB5.out).setCell HRB.out.2.1 _⟩⟩
        case measure => simp [intOf]
      · by_cases cn : e3 < 0
        · have HE : Aside0 (0 = m3) := ⟨(up_neg cn).symm.trans HM3.out⟩
          have cb : decide (e3 < 0) = true := decide_eq_true cn
          clear cn
          go_wp2_with (first | ((with_reducible refine gate_dst (N := 15) rfl ?_); refine wpList_load_row rfl 25 _ rfl gs rfl 25 _ (0, 0) _ HSr.out Try.underlying25 rfl (by rw [hsz]; kernel_rfl) ?_) | (go_at_call 50; (with_reducible refine (HC3.out _).mono ?_); rintro e w5 ⟨rfl, hb⟩; have HN5 := Aside0.mk (blk_below HNr.out hb); have HS5 := Aside0.mk (blk_below HSr.out hb); have HR5 := Aside0.mk (blk_below HRr.out hb); have HB5 := Aside0.mk (below_step HBr.out hb); clear hb; have hn5 := (blk_cell HN5.out 3).trans rfl; have hf5 := blk_frozen HN5.out 3))
          go_roundw
          case rel => exact ⟨4, by omega, by go_num, ⟨by have h2 := HE.out; rw [← h2]; exact blk_put (blk_put HN5.out 3 (.int .i64 e3) rfl) 3 (.int .i64 0) (by simp [st4])⟩, ⟨blk_far (blk_far (HS5.out) HRB.out.2.2.1 _) HRB.out.2.2.1 _⟩, ⟨blk_far (blk_far (HR5.out) HRB.out.2.2.2 _) HRB.out.2.2.2 _⟩, ⟨((HB5.out).setCell HRB.out.2.1 _).setCell HRB.out.2.1 _⟩⟩
          case measure => simp [intOf]
        · have HE : Aside0 (e3 = m3) := ⟨(up_pos cn).symm.trans HM3.out⟩
          have cb : decide (e3 < 0) = false := decide_eq_false cn
          clear cn
          go_wp2_with (first | ((with_reducible refine gate_dst (N := 15) rfl ?_); refine wpList_load_row rfl 25 _ rfl gs rfl 25 _ (0, 0) _ HSr.out Try.underlying25 rfl (by rw [hsz]; kernel_rfl) ?_) | (go_at_call 50; (with_reducible refine (HC3.out _).mono ?_); rintro e w5 ⟨rfl, hb⟩; have HN5 := Aside0.mk (blk_below HNr.out hb); have HS5 := Aside0.mk (blk_below HSr.out hb); have HR5 := Aside0.mk (blk_below HRr.out hb); have HB5 := Aside0.mk (below_step HBr.out hb); clear hb; have hn5 := (blk_cell HN5.out 3).trans rfl; have hf5 := blk_frozen HN5.out 3))
          go_roundw
          case rel => exact ⟨4, by omega, by go_num, ⟨by have h2 := HE.out; rw [← h2]; exact blk_put HN5.out 3 (.int .i64 e3) (by simp [st4])⟩, ⟨blk_far (HS5.out) HRB.out.2.2.1 _⟩, ⟨blk_far (HR5.out) HRB.out.2.2.2 _⟩, ⟨(HB5.out).setCell HRB.out.2.1 _⟩⟩
          case measure => simp [intOf]
    · have hr0 : wr.cell? ⟨gn, 0, none⟩ = some (.int .i64 m0) := (blk_cell HNr.out 0).trans rfl
      have hr1 : wr.cell? ⟨gn, 1, none⟩ = some (.int .i64 m1) := (blk_cell HNr.out 1).trans rfl
      have hr2 : wr.cell? ⟨gn, 2, none⟩ = some (.int .i64 m2) := (blk_cell HNr.out 2).trans rfl
      have hr3 : wr.cell? ⟨gn, 3, none⟩ = some (.int .i64 m3) := (blk_cell HNr.out 3).trans rfl
      have hq0 : wr.cell? ⟨gr, 0, none⟩ = some (.int .i64 0) := (blk_cell HRr.out 0).trans rfl
      have hq1 : wr.cell? ⟨gr, 1, none⟩ = some (.int .i64 0) := (blk_cell HRr.out 1).trans rfl
      have hq2 : wr.cell? ⟨gr, 2, none⟩ = some (.int .i64 0) := (blk_cell HRr.out 2).trans rfl
      have hq3 : wr.cell? ⟨gr, 3, none⟩ = some (.int .i64 0) := (blk_cell HRr.out 3).trans rfl
      have hf0 := blk_frozen HRr.out 0
      have hf1 := blk_frozen HRr.out 1
      have hf2 := blk_frozen HRr.out 2
      have hf3 := blk_frozen HRr.out 3
      go_wp2
      refine bodyPost_ret (results_cell_row rfl _ _ gr 28 #[.int .i64 m0, .int .i64 m1, .int .i64 m2, .int .i64 m3] (0, 0) _ rfl ?_ Try.underlying28 rfl (by kernel_rfl)) rfl ⟨rfl, ?_⟩
      · exact blk_put (blk_put (blk_put (blk_put HRr.out 0 (.int .i64 m0) rfl) 1 (.int .i64 m1) rfl) 2 (.int .i64 m2) rfl) 3 (.int .i64 m3) rfl
      · exact (((HBr.out.setCell HRB.out.1 _).setCell HRB.out.1 _).setCell HRB.out.1 _).setCell HRB.out.1 _
end Go.Proofs.Ytaejmgdpnnhpmaa.QSty
