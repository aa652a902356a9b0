/- widths.across, walked by hand: a bound across, and the margins. -/
import Derived.Test.YtaejmgdpnnhpmaaStyTold
import Derived.Test.YtaejmgdpnnhpmaaStyLawFrame
namespace Go.Proofs.Ytaejmgdpnnhpmaa.QSty
open Go.RowKit Go.Proofs.YtaejmgdpnnhpmaaW.PrintWords Go.Proofs.YtaejmgdpnnhpmaaW.PrintLast Go.Proofs.YtaejmgdpnnhpmaaW.PrintMore
attribute [local go_sem] max2_int min2_int max_two min_two
set_option linter.unusedVariables false
set_option linter.unusedSimpArgs false
theorem fold_set : ∀ (l pre z : List Value), l.length ≤ z.length → List.foldl (fun (cs : Array Value) (x : Value × Nat) => cs.setIfInBounds x.2 x.1) (pre ++ z).toArray (l.zipIdx pre.length) = (pre ++ l ++ z.drop l.length).toArray
  | [], pre, z, _ => by simp
  | v :: l, pre, y :: z, h => by
    have h1 := fold_set l (pre ++ [v]) z (by simpa using h)
    simp only [List.length_append, List.length_singleton] at h1
    rw [List.zipIdx_cons, List.foldl_cons]
    have h2 : (pre ++ y :: z).toArray.setIfInBounds pre.length v = ((pre ++ [v]) ++ z).toArray := by simp
    simp only [h2, h1]
    simp
  | v :: l, _, [], h => by simp at h
theorem fold_row (a z : Array Value) (n : Nat) (hn : a.size = n) (h : n ≤ z.size) : Array.foldl (fun (cs : Array Value) (x : Value × Nat) => cs.setIfInBounds x.2 x.1) z a.zipIdx 0 n = a ++ (z.toList.drop n).toArray := by
  subst hn
  have h1 := fold_set a.toList [] z.toList (by simpa using h)
  have h2 : Array.foldl (fun (cs : Array Value) (x : Value × Nat) => cs.setIfInBounds x.2 x.1) z a.zipIdx 0 a.size = List.foldl (fun (cs : Array Value) (x : Value × Nat) => cs.setIfInBounds x.2 x.1) z a.zipIdx.toList := by
    rw [Array.foldl_toList]
    congr 1
    simp
  rw [h2]
  have h3 : (a.toList ++ List.drop a.size z.toList).toArray = a ++ (List.drop a.size z.toList).toArray := by simp
  rw [← h3]
  simpa using h1
theorem fold80 (a : Array Value) (hn : a.size = 118) : Array.foldl (fun (cs : Array Value) (x : Value × Nat) => cs.setIfInBounds x.2 x.1) Try.zeroCells80 a.zipIdx 0 118 = a ++ #[.int .i64 0, .int .i64 0, .bool false, .int .i64 0, .int .i64 0, .int .i64 0] := by
  have hz : Try.zeroCells80.size = 124 := by kernel_rfl
  rw [fold_row a _ 118 hn (by omega)]
  rfl
theorem set_app (a b : Array Value) (i : Nat) (v : Value) (j : Nat) (h : j = a.size + i) : (a ++ b).setIfInBounds j v = a ++ b.setIfInBounds i v := by
  subst h
  simp [Array.setIfInBounds_append_right]
/-- Right and left of a row of four. -/
def e4 (xs : List Int) (p room j : Int) : Int := mx 0 (edg1 xs (p + j) room)
def rimof (xs : List Int) (room : Int) : Int := wrap64 (wrap64 (wrap64 (e4 xs 19 room 3 + e4 xs 19 room 1) + e4 xs 15 room 3) + e4 xs 15 room 1)
def zbnd : Array Value := #[.int .i64 0, .int .i64 0, .int .i64 0, .int .i64 0, .int .i64 0, .int .i64 0, .int .i64 0, .int .i64 0, .int .i64 0, .int .i64 0, .int .i64 0, .int .i64 0, .int .i64 0, .int .i64 0, .int .i64 0, .int .i64 0, .int .i64 0, .int .i64 0, .int .i64 0, .int .i64 0, .int .i64 0, .int .i64 0, .int .i64 0, .int .i64 0, .int .i64 0, .int .i64 0, .int .i64 0, .int .i64 0, .int .i64 0, .int .i64 0, .int .i64 0, .int .i64 0, .int .i64 0, .int .i64 0, .int .i64 0, .int .i64 0, .int .i64 0, .int .i64 0, .int .i64 0, .int .i64 0, .int .i64 0, .int .i64 0, .int .i64 0, .int .i64 0, .int .i64 0, .int .i64 0, .int .i64 0, .int .i64 0, .int .i64 0, .int .i64 0, .int .i64 0, .int .i64 0, .int .i64 0, .int .i64 0, .int .i64 0, .int .i64 0, .int .i64 0, .int .i64 0, .int .i64 0, .int .i64 0, .int .i64 0, .int .i64 0, .int .i64 0, .int .i64 0, .int .i64 0, .int .i64 0, .int .i64 0, .int .i64 0, .int .i64 0, .int .i64 0, .int .i64 0, .int .i64 0, .int .i64 0, .int .i64 0, .int .i64 0, .int .i64 0, .int .i64 0, .int .i64 0, .int .i64 0, .int .i64 0, .int .i64 0, .int .i64 0, .int .i64 0, .int .i64 0, .int .i64 0, .int .i64 0, .int .i64 0, .int .i64 0, .int .i64 0, .int .i64 0, .int .i64 0, .int .i64 0, .int .i64 0, .int .i64 0, .int .i64 0, .int .i64 0, .int .i64 0, .int .i64 0, .int .i64 0, .int .i64 0, .int .i64 0, .int .i64 0, .int .i64 0, .int .i64 0, .int .i64 0, .int .i64 0, .int .i64 0, .int .i64 0, .int .i64 0, .int .i64 0, .int .i64 0, .int .i64 0, .int .i64 0, .int .i64 0, .int .i64 0, .int .i64 0, .int .i64 0, .int .i64 0, .int .i64 0, .int .i64 0, .bool false, .int .i64 0, .int .i64 0, .int .i64 0]
set_option maxHeartbeats 8000000 in
set_option maxRecDepth 100000 in
theorem widths_across.calls (xs : List Int) (room : Int) (hl : xs.length = 118) (w : World) :
    Calls Try.prog 52 #[sty xs, .int .i64 room] w fun e w' => e = .returned (.tuple #[.agg (bnd xs room (rimof xs room)), edg xs 11 room]) ∧ Below w.heap.size w w' := by
  have CF := fun w => margins_Frame.calls xs room hl w
  have hbs := bnd_size hl room (rimof xs room)
  have hbd : bnd xs room (rimof xs room) = (nums .i64 xs ++ ([.int .i64 room, .int .i64 (rimof xs room), .bool true, .int .i64 5, .int .i64 7, .int .i64 9] : List Value)).toArray := rfl
  obtain ⟨f0, f1, f2, f3, hf⟩ : ∃ f0 f1 f2 f3 : Int, edg xs 11 room = .agg #[.int .i64 f0, .int .i64 f1, .int .i64 f2, .int .i64 f3] := ⟨_, _, _, _, rfl⟩
  rw [hf] at CF ⊢
  clear hf
  have hg : edgA xs 19 room = .agg #[.int .i64 (mx 0 (edg1 xs 19 room)), .int .i64 (e4 xs 19 room 1), .int .i64 (mx 0 (edg1 xs (19 + 2) room)), .int .i64 (e4 xs 19 room 3)] := rfl
  have hh : edgA xs 15 room = .agg #[.int .i64 (mx 0 (edg1 xs 15 room)), .int .i64 (e4 xs 15 room 1), .int .i64 (mx 0 (edg1 xs (15 + 2) room)), .int .i64 (e4 xs 15 room 3)] := rfl
  rw [hg, hh] at CF
  clear hg hh
  have hrim : rimof xs room = wrap64 (wrap64 (wrap64 (e4 xs 19 room 3 + e4 xs 19 room 1) + e4 xs 15 room 3) + e4 xs 15 room 1) := rfl
  obtain ⟨g0, hg0⟩ : ∃ v, mx 0 (edg1 xs 19 room) = v := ⟨_, rfl⟩
  rw [hg0] at CF
  clear hg0
  obtain ⟨g1, hg1⟩ : ∃ v, e4 xs 19 room 1 = v := ⟨_, rfl⟩
  rw [hg1] at CF
  rw [hg1] at hrim
  clear hg1
  obtain ⟨g2, hg2⟩ : ∃ v, mx 0 (edg1 xs (19 + 2) room) = v := ⟨_, rfl⟩
  rw [hg2] at CF
  clear hg2
  obtain ⟨g3, hg3⟩ : ∃ v, e4 xs 19 room 3 = v := ⟨_, rfl⟩
  rw [hg3] at CF
  rw [hg3] at hrim
  clear hg3
  obtain ⟨h0, hh0⟩ : ∃ v, mx 0 (edg1 xs 15 room) = v := ⟨_, rfl⟩
  rw [hh0] at CF
  clear hh0
  obtain ⟨h1, hh1⟩ : ∃ v, e4 xs 15 room 1 = v := ⟨_, rfl⟩
  rw [hh1] at CF
  rw [hh1] at hrim
  clear hh1
  obtain ⟨h2, hh2⟩ : ∃ v, mx 0 (edg1 xs (15 + 2) room) = v := ⟨_, rfl⟩
  rw [hh2] at CF
  clear hh2
  obtain ⟨h3, hh3⟩ : ∃ v, e4 xs 15 room 3 = v := ⟨_, rfl⟩
  rw [hh3] at CF
  rw [hh3] at hrim
  clear hh3
  obtain ⟨rim, hm⟩ : ∃ r, rimof xs room = r := ⟨_, rfl⟩
  rw [hm] at hrim hbs hbd ⊢
  clear hm
  have hone : (bnd xs room rim).all (·.oneCell') = true := all_oneCell_toArray (by intro v hv; simp [nums] at hv; rcases hv with ⟨n, _, rfl⟩ | rfl | rfl | rfl | rfl | rfl | rfl <;> rfl)
  obtain ⟨c, hc⟩ : ∃ c, bnd xs room rim = c := ⟨_, rfl⟩
  rw [hc] at hbs hbd hone ⊢
  clear hc
  unfold sty at *
  obtain ⟨a, ha⟩ : ∃ a, (nums .i64 xs).toArray = a := ⟨_, rfl⟩
  have hsz : a.size = 118 := by rw [← ha]; simp [nums, hl]
  have hbd2 : c = a ++ #[.int .i64 room, .int .i64 rim, .bool true, .int .i64 5, .int .i64 7, .int .i64 9] := by rw [hbd, ← ha]; simp
  rw [ha] at CF ⊢
  have HF := Aside0.mk CF
  have HRIM := Aside0.mk hrim
  have HBD := Aside0.mk hbd2
  have HBS := Aside0.mk hbs
  have HONE := Aside0.mk hone
  clear hbs hone
  clear CF ha hbd hbd2 hrim hl
  have HB := Aside0.mk (Below.refl w.heap.size w)
  go_enter Try.func52, Try.ntmps52
  go_wp2_with (first
    | ((with_reducible refine gate_dst (N := 2) rfl ?_); refine box_event rfl (N := 2) rfl (cs := a) (t := 25) (by first | (go_simp; done) | (go_simp; rfl)) ?_; intro gs hg_ w1 hbx hb; have Kgs_1 := Aside0.mk hbx; have Ggs := Aside0.mk hg_; have Bgs := Aside0.mk (show w.heap.size ≤ gs by have := HB.out.size; omega); have HB1 := Aside0.mk (below_step HB.out hb); clear hg_ hbx hb)
    | ((with_reducible refine gate_dst (N := 4) rfl ?_); refine box_event rfl (N := 4) rfl (cs := zbnd) (t := 80) (by first | (go_simp; done) | (go_simp; rfl)) ?_; intro g4 hg_ w2 hbx hb; have Kg4_2 := Aside0.mk hbx; have Gg4 := Aside0.mk hg_; have Bg4 := Aside0.mk (show w.heap.size ≤ g4 by have := HB1.out.size; omega); have Kgs_2 := Aside0.mk (blk_below Kgs_1.out hb); have Ngsg4 : gs ≠ g4 := (by have h1 := blk_lt Kgs_1.out; omega); have Ng4gs := Ngsg4.symm; have HB2 := Aside0.mk (below_step HB1.out hb); clear hg_ hbx hb)
    | ((with_reducible refine gate_dst (N := 5) rfl ?_); refine box_event rfl (N := 5) rfl (cs := #[.int .i64 0, .int .i64 0, .int .i64 0, .int .i64 0]) (t := 28) (by first | (go_simp; done) | (go_simp; rfl)) ?_; intro g5 hg_ w3 hbx hb; have Kg5_3 := Aside0.mk hbx; have Gg5 := Aside0.mk hg_; have Bg5 := Aside0.mk (show w.heap.size ≤ g5 by have := HB2.out.size; omega); have Kgs_3 := Aside0.mk (blk_below Kgs_2.out hb); have Ngsg5 : gs ≠ g5 := (by have h1 := blk_lt Kgs_2.out; omega); have Ng5gs := Ngsg5.symm; have Kg4_3 := Aside0.mk (blk_below Kg4_2.out hb); have Ng4g5 : g4 ≠ g5 := (by have h1 := blk_lt Kg4_2.out; omega); have Ng5g4 := Ng4g5.symm; have HB3 := Aside0.mk (below_step HB2.out hb); clear hg_ hbx hb)
    | ((with_reducible refine gate_dst (N := 11) rfl ?_); refine wpList_load_row rfl 25 _ rfl gs rfl 25 _ (0, 0) _ Kgs_3.out Try.underlying25 rfl (by rw [hsz]; kernel_rfl) ?_)
    | (go_at_call 13; (with_reducible refine (HF.out _).mono ?_); rintro e w4 ⟨rfl, hb⟩; have Kgs_4 := Aside0.mk (blk_below Kgs_3.out hb); have Kg4_4 := Aside0.mk (blk_below Kg4_3.out hb); have Kg5_4 := Aside0.mk (blk_below Kg5_3.out hb); have HB4 := Aside0.mk (below_step HB3.out hb); clear hb)
    | ((with_reducible refine gate_dst (N := 6) rfl ?_); refine box_event rfl (N := 6) rfl (cs := #[.int .i64 0, .int .i64 0, .int .i64 0, .int .i64 0]) (t := 28) (by first | (go_simp; done) | (go_simp; rfl)) ?_; intro g6 hg_ w5 hbx hb; have Kg6_5 := Aside0.mk hbx; have Gg6 := Aside0.mk hg_; have Bg6 := Aside0.mk (show w.heap.size ≤ g6 by have := HB4.out.size; omega); have Kgs_5 := Aside0.mk (blk_below Kgs_4.out hb); have Ngsg6 : gs ≠ g6 := (by have h1 := blk_lt Kgs_4.out; omega); have Ng6gs := Ngsg6.symm; have Kg4_5 := Aside0.mk (blk_below Kg4_4.out hb); have Ng4g6 : g4 ≠ g6 := (by have h1 := blk_lt Kg4_4.out; omega); have Ng6g4 := Ng4g6.symm; have Kg5_5 := Aside0.mk (blk_below Kg5_4.out hb); have Ng5g6 : g5 ≠ g6 := (by have h1 := blk_lt Kg5_4.out; omega); have Ng6g5 := Ng5g6.symm; have HB5 := Aside0.mk (below_step HB4.out hb); clear hg_ hbx hb)
    | ((with_reducible refine gate_dst (N := 7) rfl ?_); refine box_event rfl (N := 7) rfl (cs := #[.int .i64 0, .int .i64 0, .int .i64 0, .int .i64 0]) (t := 28) (by first | (go_simp; done) | (go_simp; rfl)) ?_; intro g7 hg_ w6 hbx hb; have Kg7_6 := Aside0.mk hbx; have Gg7 := Aside0.mk hg_; have Bg7 := Aside0.mk (show w.heap.size ≤ g7 by have := HB5.out.size; omega); have Kgs_6 := Aside0.mk (blk_below Kgs_5.out hb); have Ngsg7 : gs ≠ g7 := (by have h1 := blk_lt Kgs_5.out; omega); have Ng7gs := Ngsg7.symm; have Kg4_6 := Aside0.mk (blk_below Kg4_5.out hb); have Ng4g7 : g4 ≠ g7 := (by have h1 := blk_lt Kg4_5.out; omega); have Ng7g4 := Ng4g7.symm; have Kg5_6 := Aside0.mk (blk_below Kg5_5.out hb); have Ng5g7 : g5 ≠ g7 := (by have h1 := blk_lt Kg5_5.out; omega); have Ng7g5 := Ng5g7.symm; have Kg6_6 := Aside0.mk (blk_below Kg6_5.out hb); have Ng6g7 : g6 ≠ g7 := (by have h1 := blk_lt Kg6_5.out; omega); have Ng7g6 := Ng6g7.symm; have HB6 := Aside0.mk (below_step HB5.out hb); clear hg_ hbx hb)
    | ((with_reducible refine gate_dst (N := 8) rfl ?_); refine box_event rfl (N := 8) rfl (cs := #[.int .i64 0, .int .i64 0, .int .i64 0, .int .i64 0]) (t := 28) (by first | (go_simp; done) | (go_simp; rfl)) ?_; intro g8 hg_ w7 hbx hb; have Kg8_7 := Aside0.mk hbx; have Gg8 := Aside0.mk hg_; have Bg8 := Aside0.mk (show w.heap.size ≤ g8 by have := HB6.out.size; omega); have Kgs_7 := Aside0.mk (blk_below Kgs_6.out hb); have Ngsg8 : gs ≠ g8 := (by have h1 := blk_lt Kgs_6.out; omega); have Ng8gs := Ngsg8.symm; have Kg4_7 := Aside0.mk (blk_below Kg4_6.out hb); have Ng4g8 : g4 ≠ g8 := (by have h1 := blk_lt Kg4_6.out; omega); have Ng8g4 := Ng4g8.symm; have Kg5_7 := Aside0.mk (blk_below Kg5_6.out hb); have Ng5g8 : g5 ≠ g8 := (by have h1 := blk_lt Kg5_6.out; omega); have Ng8g5 := Ng5g8.symm; have Kg6_7 := Aside0.mk (blk_below Kg6_6.out hb); have Ng6g8 : g6 ≠ g8 := (by have h1 := blk_lt Kg6_6.out; omega); have Ng8g6 := Ng6g8.symm; have Kg7_7 := Aside0.mk (blk_below Kg7_6.out hb); have Ng7g8 : g7 ≠ g8 := (by have h1 := blk_lt Kg7_6.out; omega); have Ng8g7 := Ng7g8.symm; have HB7 := Aside0.mk (below_step HB6.out hb); clear hg_ hbx hb; have zg6_0 : w7.cell? ⟨g6, 0, none⟩ = some (.int .i64 0) := (blk_cell Kg6_7.out 0).trans rfl; have yg6_0 := blk_frozen Kg6_7.out 0; have zg6_1 : w7.cell? ⟨g6, 1, none⟩ = some (.int .i64 0) := (blk_cell Kg6_7.out 1).trans rfl; have yg6_1 := blk_frozen Kg6_7.out 1; have zg6_2 : w7.cell? ⟨g6, 2, none⟩ = some (.int .i64 0) := (blk_cell Kg6_7.out 2).trans rfl; have yg6_2 := blk_frozen Kg6_7.out 2; have zg6_3 : w7.cell? ⟨g6, 3, none⟩ = some (.int .i64 0) := (blk_cell Kg6_7.out 3).trans rfl; have yg6_3 := blk_frozen Kg6_7.out 3; have zg7_0 : w7.cell? ⟨g7, 0, none⟩ = some (.int .i64 0) := (blk_cell Kg7_7.out 0).trans rfl; have yg7_0 := blk_frozen Kg7_7.out 0; have zg7_1 : w7.cell? ⟨g7, 1, none⟩ = some (.int .i64 0) := (blk_cell Kg7_7.out 1).trans rfl; have yg7_1 := blk_frozen Kg7_7.out 1; have zg7_2 : w7.cell? ⟨g7, 2, none⟩ = some (.int .i64 0) := (blk_cell Kg7_7.out 2).trans rfl; have yg7_2 := blk_frozen Kg7_7.out 2; have zg7_3 : w7.cell? ⟨g7, 3, none⟩ = some (.int .i64 0) := (blk_cell Kg7_7.out 3).trans rfl; have yg7_3 := blk_frozen Kg7_7.out 3; have zg8_0 : w7.cell? ⟨g8, 0, none⟩ = some (.int .i64 0) := (blk_cell Kg8_7.out 0).trans rfl; have yg8_0 := blk_frozen Kg8_7.out 0; have zg8_1 : w7.cell? ⟨g8, 1, none⟩ = some (.int .i64 0) := (blk_cell Kg8_7.out 1).trans rfl; have yg8_1 := blk_frozen Kg8_7.out 1; have zg8_2 : w7.cell? ⟨g8, 2, none⟩ = some (.int .i64 0) := (blk_cell Kg8_7.out 2).trans rfl; have yg8_2 := blk_frozen Kg8_7.out 2; have zg8_3 : w7.cell? ⟨g8, 3, none⟩ = some (.int .i64 0) := (blk_cell Kg8_7.out 3).trans rfl; have yg8_3 := blk_frozen Kg8_7.out 3))
  have Kgs_8 : Aside0 (((((((((((((w7.setCell ⟨g6, 0, none⟩ (.int .i64 f0)).setCell ⟨g6, 1, none⟩ (.int .i64 f1)).setCell ⟨g6, 2, none⟩ (.int .i64 f2)).setCell ⟨g6, 3, none⟩ (.int .i64 f3)).setCell ⟨g7, 0, none⟩ (.int .i64 g0)).setCell ⟨g7, 1, none⟩ (.int .i64 g1)).setCell ⟨g7, 2, none⟩ (.int .i64 g2)).setCell ⟨g7, 3, none⟩ (.int .i64 g3)).setCell ⟨g8, 0, none⟩ (.int .i64 h0)).setCell ⟨g8, 1, none⟩ (.int .i64 h1)).setCell ⟨g8, 2, none⟩ (.int .i64 h2)).setCell ⟨g8, 3, none⟩ (.int .i64 h3)).heap[gs]? = some (.cells a 25 (0, 0))) := Aside0.mk (blk_far (blk_far (blk_far (blk_far (blk_far (blk_far (blk_far (blk_far (blk_far (blk_far (blk_far (blk_far (Kgs_7.out) Ngsg6 _) Ngsg6 _) Ngsg6 _) Ngsg6 _) Ngsg7 _) Ngsg7 _) Ngsg7 _) Ngsg7 _) Ngsg8 _) Ngsg8 _) Ngsg8 _) Ngsg8 _)
  have Kg4_8 : Aside0 (((((((((((((w7.setCell ⟨g6, 0, none⟩ (.int .i64 f0)).setCell ⟨g6, 1, none⟩ (.int .i64 f1)).setCell ⟨g6, 2, none⟩ (.int .i64 f2)).setCell ⟨g6, 3, none⟩ (.int .i64 f3)).setCell ⟨g7, 0, none⟩ (.int .i64 g0)).setCell ⟨g7, 1, none⟩ (.int .i64 g1)).setCell ⟨g7, 2, none⟩ (.int .i64 g2)).setCell ⟨g7, 3, none⟩ (.int .i64 g3)).setCell ⟨g8, 0, none⟩ (.int .i64 h0)).setCell ⟨g8, 1, none⟩ (.int .i64 h1)).setCell ⟨g8, 2, none⟩ (.int .i64 h2)).setCell ⟨g8, 3, none⟩ (.int .i64 h3)).heap[g4]? = some (.cells zbnd 80 (0, 0))) := Aside0.mk (blk_far (blk_far (blk_far (blk_far (blk_far (blk_far (blk_far (blk_far (blk_far (blk_far (blk_far (blk_far (Kg4_7.out) Ng4g6 _) Ng4g6 _) Ng4g6 _) Ng4g6 _) Ng4g7 _) Ng4g7 _) Ng4g7 _) Ng4g7 _) Ng4g8 _) Ng4g8 _) Ng4g8 _) Ng4g8 _)
  have Kg5_8 : Aside0 (((((((((((((w7.setCell ⟨g6, 0, none⟩ (.int .i64 f0)).setCell ⟨g6, 1, none⟩ (.int .i64 f1)).setCell ⟨g6, 2, none⟩ (.int .i64 f2)).setCell ⟨g6, 3, none⟩ (.int .i64 f3)).setCell ⟨g7, 0, none⟩ (.int .i64 g0)).setCell ⟨g7, 1, none⟩ (.int .i64 g1)).setCell ⟨g7, 2, none⟩ (.int .i64 g2)).setCell ⟨g7, 3, none⟩ (.int .i64 g3)).setCell ⟨g8, 0, none⟩ (.int .i64 h0)).setCell ⟨g8, 1, none⟩ (.int .i64 h1)).setCell ⟨g8, 2, none⟩ (.int .i64 h2)).setCell ⟨g8, 3, none⟩ (.int .i64 h3)).heap[g5]? = some (.cells #[.int .i64 0, .int .i64 0, .int .i64 0, .int .i64 0] 28 (0, 0))) := Aside0.mk (blk_far (blk_far (blk_far (blk_far (blk_far (blk_far (blk_far (blk_far (blk_far (blk_far (blk_far (blk_far (Kg5_7.out) Ng5g6 _) Ng5g6 _) Ng5g6 _) Ng5g6 _) Ng5g7 _) Ng5g7 _) Ng5g7 _) Ng5g7 _) Ng5g8 _) Ng5g8 _) Ng5g8 _) Ng5g8 _)
  have Kg6_8 : Aside0 (((((((((((((w7.setCell ⟨g6, 0, none⟩ (.int .i64 f0)).setCell ⟨g6, 1, none⟩ (.int .i64 f1)).setCell ⟨g6, 2, none⟩ (.int .i64 f2)).setCell ⟨g6, 3, none⟩ (.int .i64 f3)).setCell ⟨g7, 0, none⟩ (.int .i64 g0)).setCell ⟨g7, 1, none⟩ (.int .i64 g1)).setCell ⟨g7, 2, none⟩ (.int .i64 g2)).setCell ⟨g7, 3, none⟩ (.int .i64 g3)).setCell ⟨g8, 0, none⟩ (.int .i64 h0)).setCell ⟨g8, 1, none⟩ (.int .i64 h1)).setCell ⟨g8, 2, none⟩ (.int .i64 h2)).setCell ⟨g8, 3, none⟩ (.int .i64 h3)).heap[g6]? = some (.cells #[.int .i64 f0, .int .i64 f1, .int .i64 f2, .int .i64 f3] 28 (0, 0))) := Aside0.mk (blk_far (blk_far (blk_far (blk_far (blk_far (blk_far (blk_far (blk_far (blk_put (blk_put (blk_put (blk_put (Kg6_7.out) 0 (.int .i64 f0) rfl) 1 (.int .i64 f1) rfl) 2 (.int .i64 f2) rfl) 3 (.int .i64 f3) rfl) Ng6g7 _) Ng6g7 _) Ng6g7 _) Ng6g7 _) Ng6g8 _) Ng6g8 _) Ng6g8 _) Ng6g8 _)
  have Kg7_8 : Aside0 (((((((((((((w7.setCell ⟨g6, 0, none⟩ (.int .i64 f0)).setCell ⟨g6, 1, none⟩ (.int .i64 f1)).setCell ⟨g6, 2, none⟩ (.int .i64 f2)).setCell ⟨g6, 3, none⟩ (.int .i64 f3)).setCell ⟨g7, 0, none⟩ (.int .i64 g0)).setCell ⟨g7, 1, none⟩ (.int .i64 g1)).setCell ⟨g7, 2, none⟩ (.int .i64 g2)).setCell ⟨g7, 3, none⟩ (.int .i64 g3)).setCell ⟨g8, 0, none⟩ (.int .i64 h0)).setCell ⟨g8, 1, none⟩ (.int .i64 h1)).setCell ⟨g8, 2, none⟩ (.int .i64 h2)).setCell ⟨g8, 3, none⟩ (.int .i64 h3)).heap[g7]? = some (.cells #[.int .i64 g0, .int .i64 g1, .int .i64 g2, .int .i64 g3] 28 (0, 0))) := Aside0.mk (blk_far (blk_far (blk_far (blk_far (blk_put (blk_put (blk_put (blk_put (blk_far (blk_far (blk_far (blk_far (Kg7_7.out) Ng7g6 _) Ng7g6 _) Ng7g6 _) Ng7g6 _) 0 (.int .i64 g0) rfl) 1 (.int .i64 g1) rfl) 2 (.int .i64 g2) rfl) 3 (.int .i64 g3) rfl) Ng7g8 _) Ng7g8 _) Ng7g8 _) Ng7g8 _)
  have Kg8_8 : Aside0 (((((((((((((w7.setCell ⟨g6, 0, none⟩ (.int .i64 f0)).setCell ⟨g6, 1, none⟩ (.int .i64 f1)).setCell ⟨g6, 2, none⟩ (.int .i64 f2)).setCell ⟨g6, 3, none⟩ (.int .i64 f3)).setCell ⟨g7, 0, none⟩ (.int .i64 g0)).setCell ⟨g7, 1, none⟩ (.int .i64 g1)).setCell ⟨g7, 2, none⟩ (.int .i64 g2)).setCell ⟨g7, 3, none⟩ (.int .i64 g3)).setCell ⟨g8, 0, none⟩ (.int .i64 h0)).setCell ⟨g8, 1, none⟩ (.int .i64 h1)).setCell ⟨g8, 2, none⟩ (.int .i64 h2)).setCell ⟨g8, 3, none⟩ (.int .i64 h3)).heap[g8]? = some (.cells #[.int .i64 h0, .int .i64 h1, .int .i64 h2, .int .i64 h3] 28 (0, 0))) := Aside0.mk (blk_put (blk_put (blk_put (blk_put (blk_far (blk_far (blk_far (blk_far (blk_far (blk_far (blk_far (blk_far (Kg8_7.out) Ng8g6 _) Ng8g6 _) Ng8g6 _) Ng8g6 _) Ng8g7 _) Ng8g7 _) Ng8g7 _) Ng8g7 _) 0 (.int .i64 h0) rfl) 1 (.int .i64 h1) rfl) 2 (.int .i64 h2) rfl) 3 (.int .i64 h3) rfl)
  have HB8 : Aside0 (Below w.heap.size w ((((((((((((w7.setCell ⟨g6, 0, none⟩ (.int .i64 f0)).setCell ⟨g6, 1, none⟩ (.int .i64 f1)).setCell ⟨g6, 2, none⟩ (.int .i64 f2)).setCell ⟨g6, 3, none⟩ (.int .i64 f3)).setCell ⟨g7, 0, none⟩ (.int .i64 g0)).setCell ⟨g7, 1, none⟩ (.int .i64 g1)).setCell ⟨g7, 2, none⟩ (.int .i64 g2)).setCell ⟨g7, 3, none⟩ (.int .i64 g3)).setCell ⟨g8, 0, none⟩ (.int .i64 h0)).setCell ⟨g8, 1, none⟩ (.int .i64 h1)).setCell ⟨g8, 2, none⟩ (.int .i64 h2)).setCell ⟨g8, 3, none⟩ (.int .i64 h3))) := Aside0.mk (((((((((((((HB7.out).setCell Bg6.out _).setCell Bg6.out _).setCell Bg6.out _).setCell Bg6.out _).setCell Bg7.out _).setCell Bg7.out _).setCell Bg7.out _).setCell Bg7.out _).setCell Bg8.out _).setCell Bg8.out _).setCell Bg8.out _).setCell Bg8.out _)
  clear zg6_0 yg6_0 zg6_1 yg6_1 zg6_2 yg6_2 zg6_3 yg6_3 zg7_0 yg7_0 zg7_1 yg7_1 zg7_2 yg7_2 zg7_3 yg7_3 zg8_0 yg8_0 zg8_1 yg8_1 zg8_2 yg8_2 zg8_3 yg8_3
  generalize ((((((((((((w7.setCell ⟨g6, 0, none⟩ (.int .i64 f0)).setCell ⟨g6, 1, none⟩ (.int .i64 f1)).setCell ⟨g6, 2, none⟩ (.int .i64 f2)).setCell ⟨g6, 3, none⟩ (.int .i64 f3)).setCell ⟨g7, 0, none⟩ (.int .i64 g0)).setCell ⟨g7, 1, none⟩ (.int .i64 g1)).setCell ⟨g7, 2, none⟩ (.int .i64 g2)).setCell ⟨g7, 3, none⟩ (.int .i64 g3)).setCell ⟨g8, 0, none⟩ (.int .i64 h0)).setCell ⟨g8, 1, none⟩ (.int .i64 h1)).setCell ⟨g8, 2, none⟩ (.int .i64 h2)).setCell ⟨g8, 3, none⟩ (.int .i64 h3)) = w8 at Kgs_8 Kg4_8 Kg5_8 Kg6_8 Kg7_8 Kg8_8 HB8 ⊢
  have hbs := HBS.out
  have hone := HONE.out
  refine start_ (n := 7) (S := fun w' => w'.heap[gs]? = some (.cells a 25 (0, 0)) ∧ w'.heap[g6]? = some (.cells #[.int .i64 f0, .int .i64 f1, .int .i64 f2, .int .i64 f3] 28 (0, 0)) ∧ Below w.heap.size w w') (ds := []) #[false, false, false, false, false, false, false] (by kernel_rfl) rfl rfl ⟨Kgs_8.out, Kg6_8.out, below_drew1 HB8.out⟩ (fun hHeld => ?_)
  refine pure_ (i := 1) (N := some 29) (v := ?_) (a' := ?_) #[false, true, false, false, false, false, false] rfl rfl (by kernel_rfl) (fun _ _ _ h => h) (Or.inl ⟨by rfl, ?_⟩) ?_ ?_
  rotate_left
  · intro w'
    go_simp
    with_reducible rfl
  rotate_left
  · simp only [Act.put, List.setIfInBounds_toArray, List.set_cons_zero, List.set_cons_succ, i64_w, i32_w]
    rfl
  refine pure_ (i := 2) (N := some 30) (v := ?_) (a' := ?_) #[false, true, true, false, false, false, false] rfl rfl (by kernel_rfl) (fun _ _ _ h => h) (Or.inl ⟨by rfl, ?_⟩) ?_ ?_
  rotate_left
  · intro w'
    go_simp
    with_reducible rfl
  rotate_left
  · simp only [Act.put, List.setIfInBounds_toArray, List.set_cons_zero, List.set_cons_succ, i64_w, i32_w]
    rfl
  refine take_ (i := 0) (N := some 28) (v := ?_) (a' := ?_) #[true, true, true, false, false, false, false] rfl rfl (by kernel_rfl) (fun _ _ _ h => h) (Or.inl ⟨by rfl, ?_⟩) hHeld ?_ ?_
  rotate_left
  · rintro w' ⟨s0, s1, s2⟩
    refine load_run 25 (.tmp 2) ?_ gs ?_ 25 _ (0, 0) _ s0 Try.underlying25 ?_ ?_
    · rfl
    · rfl
    · rfl
    · rw [hsz]; kernel_rfl
  rotate_left
  · simp only [Act.put, List.setIfInBounds_toArray, List.set_cons_zero, List.set_cons_succ, i64_w, i32_w]
    rfl
  refine pure_ (i := 3) (N := some 31) (v := ?_) (a' := ?_) #[true, true, true, true, false, false, false] rfl rfl (by kernel_rfl) (fun _ _ _ h => h) (Or.inl ⟨by rfl, ?_⟩) ?_ ?_
  rotate_left
  · intro w'
    have hfo := fold80 a hsz
    go_simp
    with_reducible rfl
  rotate_left
  · simp only [Act.put, List.setIfInBounds_toArray, List.set_cons_zero, List.set_cons_succ, i64_w, i32_w]
    rfl
  refine take_ (i := 4) (N := some 32) (v := ?_) (a' := ?_) #[true, true, true, true, true, false, false] rfl rfl (by kernel_rfl) (fun _ _ _ h => h) (Or.inl ⟨by rfl, ?_⟩) hHeld ?_ ?_
  rotate_left
  · rintro w' ⟨s0, s1, s2⟩
    refine load_run 28 (.tmp 6) ?_ g6 ?_ 28 _ (0, 0) _ s1 Try.underlying28 ?_ ?_
    · rfl
    · rfl
    · rfl
    · kernel_rfl
  rotate_left
  · simp only [Act.put, List.setIfInBounds_toArray, List.set_cons_zero, List.set_cons_succ, i64_w, i32_w]
    rfl
  refine one_ (i := 5) (N := none) #[true, true, true, true, true, true, false] rfl rfl (by kernel_rfl) (by decide) (fun K hK => ?_)
  rw [if_pos (by rfl)]
  refine wp_store_mid 80 (.tmp 4) (.tmp 31) rfl g4 0 c rfl ?_ (there_row (cs := zbnd) Kg4_8.out _ (by rw [hbs]; decide)) (by rw [hbs]; kernel_rfl) hone ?_
  · rw [HBD.out, HRIM.out]
    rfl
  have k4 := sets_row (vs := c) (show w8.drew.heap[g4]? = some (.cells zbnd 80 (0, 0)) from Kg4_8.out) (by rw [hbs]; rfl)
  have k5 : Aside0 ((w8.drew.setCells g4 0 c.toList).heap[g5]? = some (.cells #[.int .i64 0, .int .i64 0, .int .i64 0, .int .i64 0] 28 (0, 0))) := ⟨(sets_far Ng5g4 _ _ _).trans Kg5_8.out⟩
  refine hK.out _ _ ⟨((sets_far Ngsg4 _ _ _).trans hHeld.1), ((sets_far Ng6g4 _ _ _).trans hHeld.2.1), (sets_below Bg4.out _ _ _ hHeld.2.2)⟩ (fun hHeld => ?_)
  clear hK K
  refine one_ (i := 6) (N := none) #[true, true, true, true, true, true, true] rfl rfl (by kernel_rfl) (by decide) (fun K hK => ?_)
  generalize w8.drew.setCells g4 0 c.toList = w20 at k4 k5 hHeld ⊢
  have z0 : w20.cell? ⟨g5, 0, none⟩ = some (.int .i64 0) := (blk_cell k5.out 0).trans rfl
  have z1 : w20.cell? ⟨g5, 1, none⟩ = some (.int .i64 0) := (blk_cell k5.out 1).trans rfl
  have z2 : w20.cell? ⟨g5, 2, none⟩ = some (.int .i64 0) := (blk_cell k5.out 2).trans rfl
  have z3 : w20.cell? ⟨g5, 3, none⟩ = some (.int .i64 0) := (blk_cell k5.out 3).trans rfl
  have y0 := blk_frozen k5.out 0
  have y1 := blk_frozen k5.out 1
  have y2 := blk_frozen k5.out 2
  have y3 := blk_frozen k5.out 3
  refine skip_ (w1 := ?_) (by rfl) rfl ?_ ?_
  rotate_left
  · go_simp
    rfl
  refine hK.out _ _ ⟨(blk_far (blk_far (blk_far (blk_far hHeld.1 Ngsg5 _) Ngsg5 _) Ngsg5 _) Ngsg5 _), (blk_far (blk_far (blk_far (blk_far hHeld.2.1 Ng6g5 _) Ng6g5 _) Ng6g5 _) Ng6g5 _), ((((hHeld.2.2.setCell Bg5.out _).setCell Bg5.out _).setCell Bg5.out _).setCell Bg5.out _)⟩ (fun hHeld => ?_)
  clear hK K
  refine done_ (by kernel_rfl) ?_
  have k4' : Aside0 (((((w20.setCell ⟨g5, 0, none⟩ (.int .i64 f0)).setCell ⟨g5, 1, none⟩ (.int .i64 f1)).setCell ⟨g5, 2, none⟩ (.int .i64 f2)).setCell ⟨g5, 3, none⟩ (.int .i64 f3)).heap[g4]? = some (.cells c 80 (0, 0))) := ⟨blk_far (blk_far (blk_far (blk_far k4 Ng4g5 _) Ng4g5 _) Ng4g5 _) Ng4g5 _⟩
  have k5' : Aside0 (((((w20.setCell ⟨g5, 0, none⟩ (.int .i64 f0)).setCell ⟨g5, 1, none⟩ (.int .i64 f1)).setCell ⟨g5, 2, none⟩ (.int .i64 f2)).setCell ⟨g5, 3, none⟩ (.int .i64 f3)).heap[g5]? = some (.cells #[.int .i64 f0, .int .i64 f1, .int .i64 f2, .int .i64 f3] 28 (0, 0))) := ⟨blk_put (blk_put (blk_put (blk_put k5.out 0 (.int .i64 f0) rfl) 1 (.int .i64 f1) rfl) 2 (.int .i64 f2) rfl) 3 (.int .i64 f3) rfl⟩
  have hbf := Aside0.mk hHeld.2.2
  clear hHeld z0 z1 z2 z3 y0 y1 y2 y3
  generalize ((((w20.setCell ⟨g5, 0, none⟩ (.int .i64 f0)).setCell ⟨g5, 1, none⟩ (.int .i64 f1)).setCell ⟨g5, 2, none⟩ (.int .i64 f2)).setCell ⟨g5, 3, none⟩ (.int .i64 f3)) = w21 at k4' k5' hbf ⊢
  go_wp2
  refine bodyPost_ret (results_list (rs := [.cell 4 80, .cell 5 28]) rfl (by simp) (.cell g4 80 c (0, 0) _ rfl k4'.out Try.underlying80 rfl (by rw [hbs]; kernel_rfl) (.cell g5 28 #[.int .i64 f0, .int .i64 f1, .int .i64 f2, .int .i64 f3] (0, 0) _ rfl k5'.out Try.underlying28 rfl (by kernel_rfl) .nil))) rfl ⟨rfl, hbf.out⟩
end Go.Proofs.Ytaejmgdpnnhpmaa.QSty
