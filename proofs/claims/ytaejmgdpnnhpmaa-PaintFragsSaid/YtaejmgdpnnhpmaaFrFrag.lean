/- paint.Frag, walked by hand. -/
import Derived.Test.YtaejmgdpnnhpmaaFrCmds
namespace Go.Proofs.Ytaejmgdpnnhpmaa.QSty
open Go.RowKit Go.Proofs.YtaejmgdpnnhpmaaW.PrintWords Go.Proofs.YtaejmgdpnnhpmaaW.PrintLast Go.Proofs.YtaejmgdpnnhpmaaW.PrintMore
set_option linter.unusedVariables false
set_option linter.unusedSimpArgs false
theorem and255 (x : Int) : bits .and .i64 x 255 = x % 256 := by
  have h1 : ((BitVec.ofInt 64 x) &&& (BitVec.ofInt 64 255)).toNat = (x % 18446744073709551616).toNat % 256 := by
    rw [BitVec.toNat_and, BitVec.toNat_ofInt, show (BitVec.ofInt 64 255).toNat = 2 ^ 8 - 1 from rfl, Nat.and_two_pow_sub_one_eq_mod]
    rfl
  show IntKind.i64.wrap (((BitVec.ofInt 64 x &&& BitVec.ofInt 64 255).toNat : Nat) : Int) = x % 256
  rw [h1, IntKind.wrap_i64]
  omega
def passS (c : S45) : Bool := seen c.f4 c.f5 c.f6
theorem rd45_at (l : List S45) (i : Nat) (h : i < l.length) : l.drop i = rd_T45 l (i : Int) :: l.drop (i + 1) := by
  rw [List.drop_eq_getElem_cons h]
  congr 1
  unfold rd_T45
  rw [Int.toNat_natCast]
  simp [List.getD_eq_getElem?_getD, h]
theorem fills_l (l : List S45) (hl : l.length ≤ 1000) (d : Nat) : ∀ (k i : Nat) (out : List S45), i + d = l.length → d < k → out.length ≤ i → paint_fills.l0 k out l (l.length : Int) (i : Int) = some (out ++ (l.drop i).filter passS) := by
  induction d with
  | zero =>
    intro k i out h hk ho
    obtain ⟨k, rfl⟩ : ∃ q, k = q + 1 := ⟨k - 1, by omega⟩
    obtain rfl : i = l.length := by omega
    rw [paint_fills.l0, if_neg (by omega), List.drop_length]
    simp
  | succ d ih =>
    intro k i out h hk ho
    obtain ⟨k, rfl⟩ : ∃ q, k = q + 1 := ⟨k - 1, by omega⟩
    have hw : wrap64 ((i : Int) + 1) = ((i + 1 : Nat) : Int) := by unfold wrap64; omega
    rw [rd45_at l i (by omega), paint_fills.l0, if_pos (by omega), if_pos (by omega), if_pos (by omega), hw]
    generalize rd_T45 l (i : Int) = c
    have h0 := and255 c.f6
    have e1 := ih k (i + 1) out (by omega) (by omega) (by omega)
    by_cases c1 : c.f4 > 0
    · rw [if_pos c1]
      by_cases c2 : c.f5 > 0
      · rw [if_pos c2]
        by_cases c3 : bits .and .i64 c.f6 255 = 0
        · have hp : passS c = false := by unfold passS seen; simp [c1, c2, c3]
          rw [if_pos c3, e1, List.filter_cons_of_neg (by rw [hp]; simp)]
        · have hg : bits .and .i64 c.f6 255 > 0 := by omega
          have hp : passS c = true := by unfold passS seen; simp [c1, c2, hg]
          rw [if_neg c3, if_pos (by omega), List.filter_cons_of_pos hp]
          have e2 := ih k (i + 1) (out ++ [c]) (by omega) (by omega) (by simp; omega)
          refine Eq.trans e2 ?_
          simp
      · have hp : passS c = false := by unfold passS seen; simp [c2]
        rw [if_neg c2, e1, List.filter_cons_of_neg (by rw [hp]; simp)]
    · have hp : passS c = false := by unfold passS seen; simp [c1]
      rw [if_neg c1, e1, List.filter_cons_of_neg (by rw [hp]; simp)]
theorem fills_eq (l : List S45) (hl : l.length ≤ 1000) : paint_fills.f 1001 l = some (l.filter passS) := by
  have := fills_l l hl l.length 1001 0 [] (by omega) (by omega) (by simp)
  unfold paint_fills.f
  simpa using this
theorem fill_call {L : List S45} {n c b : Nat} {A : Option Addr} {ok : Nat → Prop} {w : World} (hn : L.length = n) (hle : L.length ≤ 1000) (h : Kd.R k45 45 w b ok (.slice A n c) L) :
    Calls Try.prog 60 #[.slice A n c] w fun e w' => ∃ v0 : Value, e = .returned v0 ∧ Kd.R k45 45 w' w.heap.size (fun _ => True) v0 (L.filter passS) ∧ Below w.heap.size w w' := by
  subst hn
  have h2 := Kd.R_reads' h
  exact paint_fills.calls 1001 A c L _ w h2.2.2 h2.2.1 (fills_eq L hle)
/-- A box's commands ahead of the filter. -/
def boxL (f : Fr) (xs : List Int) : List S45 := [cmdS f.f1 f.x f.y f.w (top_ xs) (xs.getD 47 0), cmdS f.f1 (wrap64 (wrap64 (f.x + f.w) - right_ xs)) (wrap64 (f.y + top_ xs)) (right_ xs) (wrap64 (wrap64 (f.h - top_ xs) - bot_ xs)) (xs.getD 49 0), cmdS f.f1 f.x (wrap64 (wrap64 (f.y + f.h) - bot_ xs)) f.w (bot_ xs) (xs.getD 51 0), cmdS f.f1 f.x (wrap64 (f.y + top_ xs)) (left_ xs) (wrap64 (wrap64 (f.h - top_ xs) - bot_ xs)) (xs.getD 53 0)]
def bgL (f : Fr) (xs : List Int) : List S45 := [cmdS f.f1 f.x f.y f.w f.h (xs.getD 73 0)]
theorem one_filter (node x y w h c : Int) (r : List S45) : (cmdS node x y w h c :: r).filter passS = onef node x y w h c ++ r.filter passS := by
  unfold onef
  rw [List.filter_cons]
  show (if seen w h c = true then _ else _) = _
  split <;> rfl
theorem fills_row (f : Fr) (xs : List Int) : (bgL f xs).filter passS = fillsOf f 8 xs := by
  unfold bgL fillsOf
  rw [one_filter]
  simp
theorem fills_box (f : Fr) (kind : Int) (xs : List Int) (h : ¬ kind = 8) : (bgL f xs ++ boxL f xs).filter passS = fillsOf f kind xs := by
  unfold bgL boxL fillsOf
  simp only [List.singleton_append, one_filter, if_neg h, List.filter_nil, List.append_nil, List.nil_append, List.append_assoc]
theorem R_sets {α : Type} {d : Kd α} {e base g : Nat} {ok : Nat → Prop} {v : Value} {xs : List α} (hok : ∀ k, ok k → k ≠ g) : ∀ (vs : List Value) (o : Nat) (w : World), Kd.R d e w base ok v xs → Kd.R d e (w.setCells g o vs) base ok v xs
  | [], _, _, h => h
  | u :: r, o, w, h => R_sets hok r (o + 1) _ (Kd.R_far (p := ⟨g, o, none⟩) h hok u)
/-- A call of a closure, by its contract: the run is shown by the walk's simp. -/
theorem one4 (x0 x1 x2 x3 : Int) : (#[.int .i64 x0, .int .i64 x1, .int .i64 x2, .int .i64 x3] : Array Value).all (·.oneCell') = true := all_oneCell_toArray (cs := [.int .i64 x0, .int .i64 x1, .int .i64 x2, .int .i64 x3]) (by intro v hv; simp only [List.mem_cons, List.not_mem_nil, or_false] at hv; rcases hv with rfl | rfl | rfl | rfl <;> rfl)
set_option maxHeartbeats 8000000 in
set_option maxRecDepth 100000 in
theorem paint_Frag.hidden (f : Fr) (kind : Int) (xs : List Int) (hl : xs.length = 118) (w : World) (hv : xs.getD 67 0 = 1) :
    Calls Try.prog 24 #[.agg (frc f), .int .i64 kind, sty xs] w fun e w' => ∃ v0, e = .returned v0 ∧ Kd.R k45 45 w' w.heap.size (fun _ => True) v0 [] ∧ Below w.heap.size w w' := by
  unfold sty
  obtain ⟨a, ha⟩ : ∃ a, (nums .i64 xs).toArray = a := ⟨_, rfl⟩
  have hsz : a.size = 118 := by rw [← ha]; simp [nums, hl]
  have HA := Aside0.mk ha
  have HL := Aside0.mk hl
  have A67 : Aside0 (a[67]? = some (.int .i64 (xs.getD 67 0))) := ⟨by rw [← ha]; simp [nums, hl]⟩
  rw [ha]
  clear ha hl
  obtain ⟨F, hF⟩ : ∃ F, frc f = F := ⟨_, rfl⟩
  have HF := Aside0.mk hF
  rw [hF]
  clear hF
  have HB := Aside0.mk (Below.refl w.heap.size w)
  obtain ⟨vis, hvis⟩ : ∃ q, xs.getD 67 0 = q := ⟨_, rfl⟩
  rw [hvis] at A67 hv
  clear hvis
  have bv : (vis == 1) = true := beq_iff_eq.mpr hv
  clear hv
  go_enter Try.func24, Try.ntmps24
  go_wp2_with (first | ((with_reducible refine gate_dst (N := 3) rfl ?_); refine box_event rfl (N := 3) rfl (cs := F) (t := 41) (by first | (go_simp; done) | (go_simp; rfl)) ?_; intro gf hg_ w1 hbx hb; have Kgf_1 := Aside0.mk hbx; have Bgf := Aside0.mk (show w.heap.size ≤ gf by have := HB.out.size; omega); have HB1 := Aside0.mk (below_step HB.out hb); clear hg_ hbx hb) | ((with_reducible refine gate_dst (N := 5) rfl ?_); refine box_event rfl (N := 5) rfl (cs := a) (t := 25) (by first | (go_simp; done) | (go_simp; rfl)) ?_; intro gs hg_ w2 hbx hb; have Kgs_2 := Aside0.mk hbx; have Bgs := Aside0.mk (show w.heap.size ≤ gs by have := HB1.out.size; omega); have Kgf_2 := Aside0.mk (blk_below Kgf_1.out hb); have Ngfgs : gf ≠ gs := (by have h1 := blk_lt Kgf_1.out; omega); have HB2 := Aside0.mk (below_step HB1.out hb); clear hg_ hbx hb; have v67 : w2.cell? ⟨gs, 67, none⟩ = some (.int .i64 vis) := (blk_cell Kgs_2.out 67).trans A67.out))
  go_ret
  exact ⟨_, rfl, Kd.R_nil _ _ _ _ _, HB2.out⟩
set_option maxHeartbeats 8000000 in
set_option maxRecDepth 100000 in
theorem paint_Frag.empty (f : Fr) (kind : Int) (xs : List Int) (hl : xs.length = 118) (w : World) (hv : ¬ xs.getD 67 0 = 1) (hk : kind = 4) (ht : f.text.toList = []) :
    Calls Try.prog 24 #[.agg (frc f), .int .i64 kind, sty xs] w fun e w' => ∃ v0, e = .returned v0 ∧ Kd.R k45 45 w' w.heap.size (fun _ => True) v0 [] ∧ Below w.heap.size w w' := by
  unfold sty
  obtain ⟨a, ha⟩ : ∃ a, (nums .i64 xs).toArray = a := ⟨_, rfl⟩
  have hsz : a.size = 118 := by rw [← ha]; simp [nums, hl]
  have HA := Aside0.mk ha
  have HL := Aside0.mk hl
  have A67 : Aside0 (a[67]? = some (.int .i64 (xs.getD 67 0))) := ⟨by rw [← ha]; simp [nums, hl]⟩
  rw [ha]
  clear ha hl
  obtain ⟨F, hF⟩ : ∃ F, frc f = F := ⟨_, rfl⟩
  have HF := Aside0.mk hF
  rw [hF]
  clear hF
  have HB := Aside0.mk (Below.refl w.heap.size w)
  obtain ⟨vis, hvis⟩ : ∃ q, xs.getD 67 0 = q := ⟨_, rfl⟩
  rw [hvis] at A67 hv
  clear hvis
  have bv : (vis == 1) = false := beq_eq_false_iff_ne.mpr hv
  have bk : (kind == 4) = true := beq_iff_eq.mpr hk
  have bt : (f.text.toList == []) = true := beq_iff_eq.mpr ht
  have bt2 : f.text.toList.isEmpty = true := by rw [ht]; rfl
  clear hv ht
  go_enter Try.func24, Try.ntmps24
  go_wp2_with (first | ((with_reducible refine gate_dst (N := 3) rfl ?_); refine box_event rfl (N := 3) rfl (cs := F) (t := 41) (by first | (go_simp; done) | (go_simp; rfl)) ?_; intro gf hg_ w1 hbx hb; have Kgf_1 := Aside0.mk hbx; have Bgf := Aside0.mk (show w.heap.size ≤ gf by have := HB.out.size; omega); have HB1 := Aside0.mk (below_step HB.out hb); clear hg_ hbx hb) | ((with_reducible refine gate_dst (N := 5) rfl ?_); refine box_event rfl (N := 5) rfl (cs := a) (t := 25) (by first | (go_simp; done) | (go_simp; rfl)) ?_; intro gs hg_ w2 hbx hb; have Kgs_2 := Aside0.mk hbx; have Bgs := Aside0.mk (show w.heap.size ≤ gs by have := HB1.out.size; omega); have Kgf_2 := Aside0.mk (blk_below Kgf_1.out hb); have Ngfgs : gf ≠ gs := (by have h1 := blk_lt Kgf_1.out; omega); have HB2 := Aside0.mk (below_step HB1.out hb); clear hg_ hbx hb; have v67 : w2.cell? ⟨gs, 67, none⟩ = some (.int .i64 vis) := (blk_cell Kgs_2.out 67).trans A67.out; have vt : w2.cell? ⟨gf, 7, none⟩ = some (.string f.text) := (blk_cell Kgf_2.out 7).trans (by rw [← HF.out]; rfl)))
  go_ret
  exact ⟨_, rfl, Kd.R_nil _ _ _ _ _, HB2.out⟩
set_option maxHeartbeats 8000000 in
set_option maxRecDepth 100000 in
theorem paint_Frag.text (f : Fr) (kind : Int) (xs : List Int) (hl : xs.length = 118) (w : World) (hv : ¬ xs.getD 67 0 = 1) (hk : kind = 4) (ht : ¬ f.text.toList = []) :
    Calls Try.prog 24 #[.agg (frc f), .int .i64 kind, sty xs] w fun e w' => ∃ v0, e = .returned v0 ∧ Kd.R k45 45 w' w.heap.size (fun _ => True) v0 [textOf f xs] ∧ Below w.heap.size w w' := by
  unfold sty
  obtain ⟨a, ha⟩ : ∃ a, (nums .i64 xs).toArray = a := ⟨_, rfl⟩
  have hsz : a.size = 118 := by rw [← ha]; simp [nums, hl]
  have HA := Aside0.mk ha
  have HL := Aside0.mk hl
  have A67 : Aside0 (a[67]? = some (.int .i64 (xs.getD 67 0))) := ⟨by rw [← ha]; simp [nums, hl]⟩
  rw [ha]
  clear ha hl
  obtain ⟨F, hF⟩ : ∃ F, frc f = F := ⟨_, rfl⟩
  have HF := Aside0.mk hF
  rw [hF]
  clear hF
  have HB := Aside0.mk (Below.refl w.heap.size w)
  obtain ⟨vis, hvis⟩ : ∃ q, xs.getD 67 0 = q := ⟨_, rfl⟩
  rw [hvis] at A67 hv
  clear hvis
  have bv : (vis == 1) = false := beq_eq_false_iff_ne.mpr hv
  have bk : (kind == 4) = true := beq_iff_eq.mpr hk
  have bt : (f.text.toList == []) = false := beq_eq_false_iff_ne.mpr ht
  have bt2 : f.text.toList.isEmpty = false := by rw [Bool.eq_false_iff]; intro h; exact ht (List.isEmpty_iff.mp h)
  clear hv ht
  have CO := fun w => (fix_Of.calls (xs.getD 88 0) (xs.getD 89 0) 0 _ _ w (of_a _ _ _))
  have CS := fun w => items_Size.calls xs HL.out w
  have CA := fun n w => font_Ascent_calls n w
  unfold sty at CS
  rw [HA.out] at CS
  unfold textOf
  obtain ⟨sz, hsz_⟩ : ∃ z, fsize xs = z := ⟨_, rfl⟩
  rw [hsz_] at CS ⊢
  clear hsz_
  obtain ⟨asc, hasc⟩ : ∃ z, ascent sz = z := ⟨_, rfl⟩
  have CA1 := CA sz
  rw [hasc] at CA1 ⊢
  clear CA hasc
  obtain ⟨sp, hsp⟩ : ∃ z, (ofv (xs.getD 88 0) (xs.getD 89 0) 0).1 = z := ⟨_, rfl⟩
  rw [hsp] at CO ⊢
  clear hsp
  have A88 : Aside0 (a[88]? = some (.int .i64 (xs.getD 88 0))) := ⟨by rw [← HA.out]; simp [nums, HL.out]⟩
  have A89 : Aside0 (a[89]? = some (.int .i64 (xs.getD 89 0))) := ⟨by rw [← HA.out]; simp [nums, HL.out]⟩
  have A71 : Aside0 (a[71]? = some (.int .i64 (xs.getD 71 0))) := ⟨by rw [← HA.out]; simp [nums, HL.out]⟩
  obtain ⟨s88, h88⟩ : ∃ z, xs.getD 88 0 = z := ⟨_, rfl⟩
  obtain ⟨s89, h89⟩ : ∃ z, xs.getD 89 0 = z := ⟨_, rfl⟩
  obtain ⟨col, h71⟩ : ∃ z, xs.getD 71 0 = z := ⟨_, rfl⟩
  rw [h88] at A88 CO
  rw [h89] at A89 CO
  rw [h71] at A71 ⊢
  clear h88 h89 h71
  have KCO := Aside0.mk CO
  have KCS := Aside0.mk CS
  have KCA := Aside0.mk CA1
  clear CO CS CA1
  go_enter Try.func24, Try.ntmps24
  go_wp2_with (first | ((with_reducible refine gate_dst (N := 3) rfl ?_); refine box_event rfl (N := 3) rfl (cs := F) (t := 41) (by first | (go_simp; done) | (go_simp; rfl)) ?_; intro gf hg_ w1 hbx hb; have Kgf_1 := Aside0.mk hbx; have Bgf := Aside0.mk (show w.heap.size ≤ gf by have := HB.out.size; omega); have HB1 := Aside0.mk (below_step HB.out hb); clear hg_ hbx hb) | ((with_reducible refine gate_dst (N := 5) rfl ?_); refine box_event rfl (N := 5) rfl (cs := a) (t := 25) (by first | (go_simp; done) | (go_simp; rfl)) ?_; intro gs hg_ w2 hbx hb; have Kgs_2 := Aside0.mk hbx; have Bgs := Aside0.mk (show w.heap.size ≤ gs by have := HB1.out.size; omega); have Kgf_2 := Aside0.mk (blk_below Kgf_1.out hb); have Ngfgs : gf ≠ gs := (by have h1 := blk_lt Kgf_1.out; omega); have HB2 := Aside0.mk (below_step HB1.out hb); clear hg_ hbx hb; have v67 : w2.cell? ⟨gs, 67, none⟩ = some (.int .i64 vis) := (blk_cell Kgs_2.out 67).trans A67.out; have vt : w2.cell? ⟨gf, 7, none⟩ = some (.string f.text) := (blk_cell Kgf_2.out 7).trans (by rw [← HF.out]; rfl); have v88 : w2.cell? ⟨gs, 88, none⟩ = some (.int .i64 s88) := (blk_cell Kgs_2.out 88).trans A88.out; have v89 : w2.cell? ⟨gs, 89, none⟩ = some (.int .i64 s89) := (blk_cell Kgs_2.out 89).trans A89.out) | (go_at_call 47; (with_reducible refine (KCO.out _).mono ?_); rintro e w3 ⟨rfl, hb⟩; have Kgs_3 := Aside0.mk (blk_below Kgs_2.out hb); have Kgf_3 := Aside0.mk (blk_below Kgf_2.out hb); have HB3 := Aside0.mk (below_step HB2.out hb); clear hb v67 vt v88 v89) | ((with_reducible refine gate_dst (N := 33) rfl ?_); refine wpList_load_row rfl 25 _ rfl gs rfl 25 _ (0, 0) _ Kgs_3.out Try.underlying25 rfl (by rw [hsz]; kernel_rfl) ?_) | (go_at_call 57; (with_reducible refine (KCS.out _).mono ?_); rintro e w4 ⟨rfl, hb⟩; have Kgs_4 := Aside0.mk (blk_below Kgs_3.out hb); have Kgf_4 := Aside0.mk (blk_below Kgf_3.out hb); have HB4 := Aside0.mk (below_step HB3.out hb); clear hb))
  have AF1 : Aside0 (F[1]? = some (.int .i64 f.f1)) := ⟨by rw [← HF.out]; rfl⟩
  have AF3 : Aside0 (F[3]? = some (.int .i64 f.x)) := ⟨by rw [← HF.out]; rfl⟩
  have AF4 : Aside0 (F[4]? = some (.int .i64 f.y)) := ⟨by rw [← HF.out]; rfl⟩
  have AF5 : Aside0 (F[5]? = some (.int .i64 f.w)) := ⟨by rw [← HF.out]; rfl⟩
  have AF7 : Aside0 (F[7]? = some (.string f.text)) := ⟨by rw [← HF.out]; rfl⟩
  refine start_ (n := 21) (S := fun w' => w'.cell? ⟨gs, 71, none⟩ = some (.int .i64 col) ∧ w'.cell? ⟨gf, 1, none⟩ = some (.int .i64 f.f1) ∧ w'.cell? ⟨gf, 3, none⟩ = some (.int .i64 f.x) ∧ w'.cell? ⟨gf, 4, none⟩ = some (.int .i64 f.y) ∧ w'.cell? ⟨gf, 5, none⟩ = some (.int .i64 f.w) ∧ w'.cell? ⟨gf, 7, none⟩ = some (.string f.text) ∧ w'.heap[gs]? = some (.cells a 25 (0, 0)) ∧ w'.heap[gf]? = some (.cells F 41 (0, 0)) ∧ Below w.heap.size w w') (ds := [19]) #[false, false, false, false, false, false, false, false, false, false, false, false, false, false, false, false, false, false, false, false, false] (by kernel_rfl) rfl rfl ⟨(blk_cell Kgs_4.out 71).trans A71.out, (blk_cell Kgf_4.out 1).trans AF1.out, (blk_cell Kgf_4.out 3).trans AF3.out, (blk_cell Kgf_4.out 4).trans AF4.out, (blk_cell Kgf_4.out 5).trans AF5.out, (blk_cell Kgf_4.out 7).trans AF7.out, Kgs_4.out, Kgf_4.out, below_drew1 HB4.out⟩ (fun hHeld => ?_)
  refine pure_ (i := 0) (N := some 35) (v := ?_) (a' := ?_) #[true, false, false, false, false, false, false, false, false, false, false, false, false, false, false, false, false, false, false, false, false] rfl rfl (by kernel_rfl) (fun _ _ _ h => h) (Or.inl ⟨by rfl, ?_⟩) ?_ ?_
  rotate_left
  · intro w'
    go_simp
    with_reducible rfl
  rotate_left
  · simp only [Act.put, List.setIfInBounds_toArray, List.set_cons_zero, List.set_cons_succ, i64_w, i32_w]
    rfl
  refine pure_ (i := 2) (N := some 37) (v := ?_) (a' := ?_) #[true, false, true, false, false, false, false, false, false, false, false, false, false, false, false, false, false, false, false, false, false] rfl rfl (by kernel_rfl) (fun _ _ _ h => h) (Or.inl ⟨by rfl, ?_⟩) ?_ ?_
  rotate_left
  · intro w'
    go_simp
    with_reducible rfl
  rotate_left
  · simp only [Act.put, List.setIfInBounds_toArray, List.set_cons_zero, List.set_cons_succ, i64_w, i32_w]
    rfl
  refine pure_ (i := 4) (N := some 39) (v := ?_) (a' := ?_) #[true, false, true, false, true, false, false, false, false, false, false, false, false, false, false, false, false, false, false, false, false] rfl rfl (by kernel_rfl) (fun _ _ _ h => h) (Or.inl ⟨by rfl, ?_⟩) ?_ ?_
  rotate_left
  · intro w'
    go_simp
    with_reducible rfl
  rotate_left
  · simp only [Act.put, List.setIfInBounds_toArray, List.set_cons_zero, List.set_cons_succ, i64_w, i32_w]
    rfl
  refine pure_ (i := 6) (N := some 41) (v := ?_) (a' := ?_) #[true, false, true, false, true, false, true, false, false, false, false, false, false, false, false, false, false, false, false, false, false] rfl rfl (by kernel_rfl) (fun _ _ _ h => h) (Or.inl ⟨by rfl, ?_⟩) ?_ ?_
  rotate_left
  · intro w'
    go_simp
    with_reducible rfl
  rotate_left
  · simp only [Act.put, List.setIfInBounds_toArray, List.set_cons_zero, List.set_cons_succ, i64_w, i32_w]
    rfl
  refine pure_ (i := 9) (N := some 44) (v := ?_) (a' := ?_) #[true, false, true, false, true, false, true, false, false, true, false, false, false, false, false, false, false, false, false, false, false] rfl rfl (by kernel_rfl) (fun _ _ _ h => h) (Or.inl ⟨by rfl, ?_⟩) ?_ ?_
  rotate_left
  · intro w'
    go_simp
    with_reducible rfl
  rotate_left
  · simp only [Act.put, List.setIfInBounds_toArray, List.set_cons_zero, List.set_cons_succ, i64_w, i32_w]
    rfl
  refine pure_ (i := 11) (N := some 46) (v := ?_) (a' := ?_) #[true, false, true, false, true, false, true, false, false, true, false, true, false, false, false, false, false, false, false, false, false] rfl rfl (by kernel_rfl) (fun _ _ _ h => h) (Or.inl ⟨by rfl, ?_⟩) ?_ ?_
  rotate_left
  · intro w'
    go_simp
    with_reducible rfl
  rotate_left
  · simp only [Act.put, List.setIfInBounds_toArray, List.set_cons_zero, List.set_cons_succ, i64_w, i32_w]
    rfl
  refine pure_ (i := 12) (N := some 47) (v := ?_) (a' := ?_) #[true, false, true, false, true, false, true, false, false, true, false, true, true, false, false, false, false, false, false, false, false] rfl rfl (by kernel_rfl) (fun _ _ _ h => h) (Or.inl ⟨by rfl, ?_⟩) ?_ ?_
  rotate_left
  · intro w'
    go_simp
    with_reducible rfl
  rotate_left
  · simp only [Act.put, List.setIfInBounds_toArray, List.set_cons_zero, List.set_cons_succ, i64_w, i32_w]
    rfl
  refine pure_ (i := 13) (N := some 48) (v := ?_) (a' := ?_) #[true, false, true, false, true, false, true, false, false, true, false, true, true, true, false, false, false, false, false, false, false] rfl rfl (by kernel_rfl) (fun _ _ _ h => h) (Or.inl ⟨by rfl, ?_⟩) ?_ ?_
  rotate_left
  · intro w'
    go_simp
    with_reducible rfl
  rotate_left
  · simp only [Act.put, List.setIfInBounds_toArray, List.set_cons_zero, List.set_cons_succ, i64_w, i32_w]
    rfl
  refine pure_ (i := 14) (N := some 49) (v := ?_) (a' := ?_) #[true, false, true, false, true, false, true, false, false, true, false, true, true, true, true, false, false, false, false, false, false] rfl rfl (by kernel_rfl) (fun _ _ _ h => h) (Or.inl ⟨by rfl, ?_⟩) ?_ ?_
  rotate_left
  · intro w'
    go_simp
    with_reducible rfl
  rotate_left
  · simp only [Act.put, List.setIfInBounds_toArray, List.set_cons_zero, List.set_cons_succ, i64_w, i32_w]
    rfl
  refine pure_ (i := 16) (N := some 51) (v := ?_) (a' := ?_) #[true, false, true, false, true, false, true, false, false, true, false, true, true, true, true, false, true, false, false, false, false] rfl rfl (by kernel_rfl) (fun _ _ _ h => h) (Or.inl ⟨by rfl, ?_⟩) ?_ ?_
  rotate_left
  · intro w'
    go_simp
    with_reducible rfl
  rotate_left
  · simp only [Act.put, List.setIfInBounds_toArray, List.set_cons_zero, List.set_cons_succ, i64_w, i32_w]
    rfl
  refine take_ (i := 1) (N := some 36) (v := ?_) (a' := ?_) #[true, true, true, false, true, false, true, false, false, true, false, true, true, true, true, false, true, false, false, false, false] rfl rfl (by kernel_rfl) (fun _ _ _ h => h) (Or.inl ⟨by rfl, ?_⟩) hHeld ?_ ?_
  rotate_left
  · rintro w' ⟨s0, s1, s2, s3, s4, s5, s6, s7, s8⟩
    go_simp
    with_reducible rfl
  rotate_left
  · simp only [Act.put, List.setIfInBounds_toArray, List.set_cons_zero, List.set_cons_succ, i64_w, i32_w]
    rfl
  refine take_ (i := 3) (N := some 38) (v := ?_) (a' := ?_) #[true, true, true, true, true, false, true, false, false, true, false, true, true, true, true, false, true, false, false, false, false] rfl rfl (by kernel_rfl) (fun _ _ _ h => h) (Or.inl ⟨by rfl, ?_⟩) hHeld ?_ ?_
  rotate_left
  · rintro w' ⟨s0, s1, s2, s3, s4, s5, s6, s7, s8⟩
    go_simp
    with_reducible rfl
  rotate_left
  · simp only [Act.put, List.setIfInBounds_toArray, List.set_cons_zero, List.set_cons_succ, i64_w, i32_w]
    rfl
  refine take_ (i := 5) (N := some 40) (v := ?_) (a' := ?_) #[true, true, true, true, true, true, true, false, false, true, false, true, true, true, true, false, true, false, false, false, false] rfl rfl (by kernel_rfl) (fun _ _ _ h => h) (Or.inl ⟨by rfl, ?_⟩) hHeld ?_ ?_
  rotate_left
  · rintro w' ⟨s0, s1, s2, s3, s4, s5, s6, s7, s8⟩
    go_simp
    with_reducible rfl
  rotate_left
  · simp only [Act.put, List.setIfInBounds_toArray, List.set_cons_zero, List.set_cons_succ, i64_w, i32_w]
    rfl
  refine take_ (i := 10) (N := some 45) (v := ?_) (a' := ?_) #[true, true, true, true, true, true, true, false, false, true, true, true, true, true, true, false, true, false, false, false, false] rfl rfl (by kernel_rfl) (fun _ _ _ h => h) (Or.inl ⟨by rfl, ?_⟩) hHeld ?_ ?_
  rotate_left
  · rintro w' ⟨s0, s1, s2, s3, s4, s5, s6, s7, s8⟩
    go_simp
    with_reducible rfl
  rotate_left
  · simp only [Act.put, List.setIfInBounds_toArray, List.set_cons_zero, List.set_cons_succ, i64_w, i32_w]
    rfl
  refine take_ (i := 15) (N := some 50) (v := ?_) (a' := ?_) #[true, true, true, true, true, true, true, false, false, true, true, true, true, true, true, true, true, false, false, false, false] rfl rfl (by kernel_rfl) (fun _ _ _ h => h) (Or.inl ⟨by rfl, ?_⟩) hHeld ?_ ?_
  rotate_left
  · rintro w' ⟨s0, s1, s2, s3, s4, s5, s6, s7, s8⟩
    go_simp
    with_reducible rfl
  rotate_left
  · simp only [Act.put, List.setIfInBounds_toArray, List.set_cons_zero, List.set_cons_succ, i64_w, i32_w]
    rfl
  refine take_ (i := 17) (N := some 52) (v := ?_) (a' := ?_) #[true, true, true, true, true, true, true, false, false, true, true, true, true, true, true, true, true, true, false, false, false] rfl rfl (by kernel_rfl) (fun _ _ _ h => h) (Or.inl ⟨by rfl, ?_⟩) hHeld ?_ ?_
  rotate_left
  · rintro w' ⟨s0, s1, s2, s3, s4, s5, s6, s7, s8⟩
    go_simp
    with_reducible rfl
  rotate_left
  · simp only [Act.put, List.setIfInBounds_toArray, List.set_cons_zero, List.set_cons_succ, i64_w, i32_w]
    rfl
  refine one_ (i := 7) (N := some 42) #[true, true, true, true, true, true, true, true, false, true, true, true, true, true, true, true, true, true, false, false, false] rfl rfl (by kernel_rfl) (by decide) (fun K hK => ?_)
  refine goes_ Try.func58 (by kernel_rfl) rfl #[.int .i64 sz] (by rfl) rfl rfl (by simp only [List.map_toArray, List.map_cons, List.map_nil]; rfl) ?_
  with_reducible refine (KCA.out _).mono ?_
  rintro e w7 ⟨rfl, hb⟩
  refine ⟨_, rfl, ?_⟩
  refine hK.out _ _ ⟨(blk_cell (blk_below hHeld.2.2.2.2.2.2.1 hb) 71).trans A71.out, (blk_cell (blk_below hHeld.2.2.2.2.2.2.2.1 hb) 1).trans AF1.out, (blk_cell (blk_below hHeld.2.2.2.2.2.2.2.1 hb) 3).trans AF3.out, (blk_cell (blk_below hHeld.2.2.2.2.2.2.2.1 hb) 4).trans AF4.out, (blk_cell (blk_below hHeld.2.2.2.2.2.2.2.1 hb) 5).trans AF5.out, (blk_cell (blk_below hHeld.2.2.2.2.2.2.2.1 hb) 7).trans AF7.out, (blk_below hHeld.2.2.2.2.2.2.1 hb), (blk_below hHeld.2.2.2.2.2.2.2.1 hb), (below_step hHeld.2.2.2.2.2.2.2.2 hb)⟩ (fun hHeld => ?_)
  clear hK K
  refine norm_ (a' := ?_) ?_ ?_
  rotate_left
  · show Act.put _ (some 42) _ = _
    simp only [Act.put, List.setIfInBounds_toArray, List.set_cons_zero, List.set_cons_succ, i64_w, i32_w]
    rfl
  refine pure_ (i := 8) (N := some 43) (v := ?_) (a' := ?_) #[true, true, true, true, true, true, true, true, true, true, true, true, true, true, true, true, true, true, false, false, false] rfl rfl (by kernel_rfl) (fun _ _ _ h => h) (Or.inl ⟨by rfl, ?_⟩) ?_ ?_
  rotate_left
  · intro w'
    go_simp
    with_reducible rfl
  rotate_left
  · simp only [Act.put, List.setIfInBounds_toArray, List.set_cons_zero, List.set_cons_succ, i64_w, i32_w]
    rfl
  refine pure_ (i := 18) (N := some 53) (v := ?_) (a' := ?_) #[true, true, true, true, true, true, true, true, true, true, true, true, true, true, true, true, true, true, true, false, false] rfl rfl (by kernel_rfl) (fun _ _ _ h => h) (Or.inl ⟨by rfl, ?_⟩) ?_ ?_
  rotate_left
  · intro w'
    go_simp
    with_reducible rfl
  rotate_left
  · simp only [Act.put, List.setIfInBounds_toArray, List.set_cons_zero, List.set_cons_succ, i64_w, i32_w]
    rfl
  refine last_ (i := 19) (N := some 54) #[true, true, true, true, true, true, true, true, true, true, true, true, true, true, true, true, true, true, true, true, false] rfl rfl (by kernel_rfl) (by decide) (fun K hK => ?_)
  have HBh := Aside0.mk hHeld.2.2.2.2.2.2.2.2
  refine Kd.R_lit_step k45 (w0 := w) w.heap.size 45 ?hg (N := 54) ?hd (xs := ([⟨2, f.f1, f.x, wrap64 (f.y + asc), f.w, sp, col, sz, f.text⟩] : List S45)) (inner := [.int .i64 2, .int .i64 f.f1, .int .i64 f.x, .int .i64 (wrap64 (f.y + asc)), .int .i64 f.w, .int .i64 sp, .int .i64 col, .int .i64 sz, .string f.text]) (ok := fun _ => True) (okp := fun _ => True) ?hr ?hp (fun _ hk => hk) trivial HBh.out (below_size HBh.out) (by simp) ?_; (case hd => rfl); (case hg => rfl); (case hr => first | (go_simp; done) | (go_simp; rfl)); (case hp => exact Reps.c9 (show Kd.M k45 _ _ _ (⟨2, f.f1, f.x, wrap64 (f.y + asc), f.w, sp, col, sz, f.text⟩ : S45) [.int .i64 2, .int .i64 f.f1, .int .i64 f.x, .int .i64 (wrap64 (f.y + asc)), .int .i64 f.w, .int .i64 sp, .int .i64 col, .int .i64 sz, .string f.text] from k45_mkM _ _ _ (⟨2, f.f1, f.x, wrap64 (f.y + asc), f.w, sp, col, sz, f.text⟩)) (Reps.none _ _))
  intro v9 w9 hr9 hb9 hg9 hat9
  have HR9 := Aside0.mk hr9
  have HB9 := Aside0.mk hb9
  clear hr9 hb9 hg9 hat9
  refine hK.out _ _ ?_
  clear hK K
  refine norm_ (a' := ?_) ?_ ?_
  rotate_left
  · show Act.put _ (some 54) _ = _
    simp only [Act.put, List.setIfInBounds_toArray, List.set_cons_zero, List.set_cons_succ, i64_w, i32_w]
    rfl
  refine pure_ (i := 20) (N := some 6) (v := ?_) (a' := ?_) #[true, true, true, true, true, true, true, true, true, true, true, true, true, true, true, true, true, true, true, true, true] rfl rfl (by kernel_rfl) (fun _ _ _ h => h) (Or.inl ⟨by rfl, ?_⟩) ?_ ?_
  rotate_left
  · intro w'
    go_simp
    with_reducible rfl
  rotate_left
  · simp only [Act.put, List.setIfInBounds_toArray, List.set_cons_zero, List.set_cons_succ, i64_w, i32_w]
    rfl
  refine done_ (by kernel_rfl) ?_
  go_wp2
  go_ret
  exact ⟨_, rfl, HR9.out, HB9.out⟩
set_option maxHeartbeats 8000000 in
set_option maxRecDepth 100000 in
theorem paint_Frag.row (f : Fr) (kind : Int) (xs : List Int) (hl : xs.length = 118) (w : World) (hv : ¬ xs.getD 67 0 = 1) (hk : ¬ kind = 4) (h8 : kind = 8) :
    Calls Try.prog 24 #[.agg (frc f), .int .i64 kind, sty xs] w fun e w' => ∃ v0, e = .returned v0 ∧ Kd.R k45 45 w' w.heap.size (fun _ => True) v0 (fillsOf f kind xs) ∧ Below w.heap.size w w' := by
  unfold sty
  obtain ⟨a, ha⟩ : ∃ a, (nums .i64 xs).toArray = a := ⟨_, rfl⟩
  have hsz : a.size = 118 := by rw [← ha]; simp [nums, hl]
  have HA := Aside0.mk ha
  have HL := Aside0.mk hl
  have A67 : Aside0 (a[67]? = some (.int .i64 (xs.getD 67 0))) := ⟨by rw [← ha]; simp [nums, hl]⟩
  rw [ha]
  clear ha hl
  obtain ⟨F, hF⟩ : ∃ F, frc f = F := ⟨_, rfl⟩
  have HF := Aside0.mk hF
  rw [hF]
  clear hF
  have HB := Aside0.mk (Below.refl w.heap.size w)
  rw [h8, ← fills_row]
  have b8 : (kind != 8) = false := by rw [h8]; rfl
  have b8b : ((8 : Int) != 8) = false := rfl
  unfold bgL cmdS
  obtain ⟨vis, hvis⟩ : ∃ q, xs.getD 67 0 = q := ⟨_, rfl⟩
  rw [hvis] at A67 hv
  clear hvis
  have bv : (vis == 1) = false := beq_eq_false_iff_ne.mpr hv
  have bk : (kind == 4) = false := beq_eq_false_iff_ne.mpr hk
  clear hv hk
  obtain ⟨node, hnode⟩ : ∃ z, f.f1 = z := ⟨_, rfl⟩
  obtain ⟨q36, hq36⟩ : ∃ z, xs.getD 73 0 = z := ⟨_, rfl⟩
  have CF36 : Aside0 (∀ (gf gs : Nat) (w : World) (x y ww hh : Int), w.heap[gf]? = some (.cells F 41 (0, 0)) → w.heap[gs]? = some (.cells a 25 (0, 0)) → Calls Try.prog 59 #[.int .i64 x, .int .i64 y, .int .i64 ww, .int .i64 hh, .int .i64 36, .pointer (some ⟨gf, 0, none⟩), .pointer (some ⟨gs, 0, none⟩)] w fun e w' => e = .returned (.agg #[.int .i64 1, .int .i64 node, .int .i64 x, .int .i64 y, .int .i64 ww, .int .i64 hh, .int .i64 q36, .int .i64 0, .string ⟨#[]⟩]) ∧ Below w.heap.size w w') := ⟨fun gf gs w x y ww hh hf hs => by
    have h := paint_Frag_1_36.calls f xs HL.out x y ww hh gf gs w (by rw [HF.out]; exact hf) (by rw [HA.out]; exact hs)
    unfold cmdv at h
    rw [hq36, hnode] at h
    exact h⟩
  obtain ⟨q23, hq23⟩ : ∃ z, xs.getD 47 0 = z := ⟨_, rfl⟩
  have CF23 : Aside0 (∀ (gf gs : Nat) (w : World) (x y ww hh : Int), w.heap[gf]? = some (.cells F 41 (0, 0)) → w.heap[gs]? = some (.cells a 25 (0, 0)) → Calls Try.prog 59 #[.int .i64 x, .int .i64 y, .int .i64 ww, .int .i64 hh, .int .i64 23, .pointer (some ⟨gf, 0, none⟩), .pointer (some ⟨gs, 0, none⟩)] w fun e w' => e = .returned (.agg #[.int .i64 1, .int .i64 node, .int .i64 x, .int .i64 y, .int .i64 ww, .int .i64 hh, .int .i64 q23, .int .i64 0, .string ⟨#[]⟩]) ∧ Below w.heap.size w w') := ⟨fun gf gs w x y ww hh hf hs => by
    have h := paint_Frag_1_23.calls f xs HL.out x y ww hh gf gs w (by rw [HF.out]; exact hf) (by rw [HA.out]; exact hs)
    unfold cmdv at h
    rw [hq23, hnode] at h
    exact h⟩
  obtain ⟨q24, hq24⟩ : ∃ z, xs.getD 49 0 = z := ⟨_, rfl⟩
  have CF24 : Aside0 (∀ (gf gs : Nat) (w : World) (x y ww hh : Int), w.heap[gf]? = some (.cells F 41 (0, 0)) → w.heap[gs]? = some (.cells a 25 (0, 0)) → Calls Try.prog 59 #[.int .i64 x, .int .i64 y, .int .i64 ww, .int .i64 hh, .int .i64 24, .pointer (some ⟨gf, 0, none⟩), .pointer (some ⟨gs, 0, none⟩)] w fun e w' => e = .returned (.agg #[.int .i64 1, .int .i64 node, .int .i64 x, .int .i64 y, .int .i64 ww, .int .i64 hh, .int .i64 q24, .int .i64 0, .string ⟨#[]⟩]) ∧ Below w.heap.size w w') := ⟨fun gf gs w x y ww hh hf hs => by
    have h := paint_Frag_1_24.calls f xs HL.out x y ww hh gf gs w (by rw [HF.out]; exact hf) (by rw [HA.out]; exact hs)
    unfold cmdv at h
    rw [hq24, hnode] at h
    exact h⟩
  obtain ⟨q25, hq25⟩ : ∃ z, xs.getD 51 0 = z := ⟨_, rfl⟩
  have CF25 : Aside0 (∀ (gf gs : Nat) (w : World) (x y ww hh : Int), w.heap[gf]? = some (.cells F 41 (0, 0)) → w.heap[gs]? = some (.cells a 25 (0, 0)) → Calls Try.prog 59 #[.int .i64 x, .int .i64 y, .int .i64 ww, .int .i64 hh, .int .i64 25, .pointer (some ⟨gf, 0, none⟩), .pointer (some ⟨gs, 0, none⟩)] w fun e w' => e = .returned (.agg #[.int .i64 1, .int .i64 node, .int .i64 x, .int .i64 y, .int .i64 ww, .int .i64 hh, .int .i64 q25, .int .i64 0, .string ⟨#[]⟩]) ∧ Below w.heap.size w w') := ⟨fun gf gs w x y ww hh hf hs => by
    have h := paint_Frag_1_25.calls f xs HL.out x y ww hh gf gs w (by rw [HF.out]; exact hf) (by rw [HA.out]; exact hs)
    unfold cmdv at h
    rw [hq25, hnode] at h
    exact h⟩
  obtain ⟨q26, hq26⟩ : ∃ z, xs.getD 53 0 = z := ⟨_, rfl⟩
  have CF26 : Aside0 (∀ (gf gs : Nat) (w : World) (x y ww hh : Int), w.heap[gf]? = some (.cells F 41 (0, 0)) → w.heap[gs]? = some (.cells a 25 (0, 0)) → Calls Try.prog 59 #[.int .i64 x, .int .i64 y, .int .i64 ww, .int .i64 hh, .int .i64 26, .pointer (some ⟨gf, 0, none⟩), .pointer (some ⟨gs, 0, none⟩)] w fun e w' => e = .returned (.agg #[.int .i64 1, .int .i64 node, .int .i64 x, .int .i64 y, .int .i64 ww, .int .i64 hh, .int .i64 q26, .int .i64 0, .string ⟨#[]⟩]) ∧ Below w.heap.size w w') := ⟨fun gf gs w x y ww hh hf hs => by
    have h := paint_Frag_1_26.calls f xs HL.out x y ww hh gf gs w (by rw [HF.out]; exact hf) (by rw [HA.out]; exact hs)
    unfold cmdv at h
    rw [hq26, hnode] at h
    exact h⟩
  have AF3 : Aside0 (F[3]? = some (.int .i64 (f.x))) := ⟨by rw [← HF.out]; rfl⟩
  have AF4 : Aside0 (F[4]? = some (.int .i64 (f.y))) := ⟨by rw [← HF.out]; rfl⟩
  have AF5 : Aside0 (F[5]? = some (.int .i64 (f.w))) := ⟨by rw [← HF.out]; rfl⟩
  have AF6 : Aside0 (F[6]? = some (.int .i64 (f.h))) := ⟨by rw [← HF.out]; rfl⟩
  have CM := fun w => margins_Frame.calls xs 0 HL.out w
  unfold sty at CM
  rw [HA.out] at CM
  have hmid : edgA xs 19 0 = .agg #[.int .i64 (top_ xs), .int .i64 (right_ xs), .int .i64 (bot_ xs), .int .i64 (left_ xs)] := rfl
  obtain ⟨e10, e11, e12, e13, he1⟩ : ∃ x0 x1 x2 x3, edg xs 11 0 = .agg #[.int .i64 x0, .int .i64 x1, .int .i64 x2, .int .i64 x3] := ⟨_, _, _, _, rfl⟩
  obtain ⟨e30, e31, e32, e33, he3⟩ : ∃ x0 x1 x2 x3, edgA xs 15 0 = .agg #[.int .i64 x0, .int .i64 x1, .int .i64 x2, .int .i64 x3] := ⟨_, _, _, _, rfl⟩
  rw [hmid, he1, he3] at CM
  clear hmid he1 he3
  obtain ⟨tp, htp⟩ : ∃ z, top_ xs = z := ⟨_, rfl⟩
  obtain ⟨rt, hrt⟩ : ∃ z, right_ xs = z := ⟨_, rfl⟩
  obtain ⟨bt, hbt⟩ : ∃ z, bot_ xs = z := ⟨_, rfl⟩
  obtain ⟨lf, hlf⟩ : ∃ z, left_ xs = z := ⟨_, rfl⟩
  rw [htp, hrt, hbt, hlf] at CM
  have KCM := Aside0.mk CM
  clear CM
  rw [hq36, hnode]
  obtain ⟨RES, hRES⟩ : ∃ r, List.filter passS ([⟨1, node, f.x, f.y, f.w, f.h, q36, 0, ⟨#[]⟩⟩] : List S45) = r := ⟨_, rfl⟩
  rw [hRES]
  have HRES := Aside0.mk hRES
  clear hRES hq36 hq23 hq24 hq25 hq26 hnode htp hrt hbt hlf
  go_enter Try.func24, Try.ntmps24
  go_wp2_with (first | ((with_reducible refine gate_dst (N := 3) rfl ?_); refine box_event rfl (N := 3) rfl (cs := F) (t := 41) (by first | (go_simp; done) | (go_simp; rfl)) ?_; intro gf hg_ w1 hbx hb; have Kgf_1 := Aside0.mk hbx; have Bgf := Aside0.mk (show w.heap.size ≤ gf by have := HB.out.size; omega); have HB1 := Aside0.mk (below_step HB.out hb); clear hg_ hbx hb) | ((with_reducible refine gate_dst (N := 5) rfl ?_); refine box_event rfl (N := 5) rfl (cs := a) (t := 25) (by first | (go_simp; done) | (go_simp; rfl)) ?_; intro gs hg_ w2 hbx hb; have Kgs_2 := Aside0.mk hbx; have Bgs := Aside0.mk (show w.heap.size ≤ gs by have := HB1.out.size; omega); have Kgf_2 := Aside0.mk (blk_below Kgf_1.out hb); have Ngfgs : gf ≠ gs := (by have h1 := blk_lt Kgf_1.out; omega); have HB2 := Aside0.mk (below_step HB1.out hb); clear hg_ hbx hb; have v67 : w2.cell? ⟨gs, 67, none⟩ = some (.int .i64 vis) := (blk_cell Kgs_2.out 67).trans A67.out; have c3 : w2.cell? ⟨gf, 3, none⟩ = some (.int .i64 (f.x)) := (blk_cell Kgf_2.out 3).trans AF3.out; have c4 : w2.cell? ⟨gf, 4, none⟩ = some (.int .i64 (f.y)) := (blk_cell Kgf_2.out 4).trans AF4.out; have c5 : w2.cell? ⟨gf, 5, none⟩ = some (.int .i64 (f.w)) := (blk_cell Kgf_2.out 5).trans AF5.out; have c6 : w2.cell? ⟨gf, 6, none⟩ = some (.int .i64 (f.h)) := (blk_cell Kgf_2.out 6).trans AF6.out) | (go_at_call 59; (with_reducible refine (CF36.out gf gs _ _ _ _ _ Kgf_2.out Kgs_2.out).mono ?_); rintro e w3 ⟨rfl, hb⟩; have Kgs_3 := Aside0.mk (blk_below Kgs_2.out hb); have Kgf_3 := Aside0.mk (blk_below Kgf_2.out hb); have HB3 := Aside0.mk (below_step HB2.out hb); clear hb v67 c3 c4 c5 c6) | ((with_reducible refine gate_dst (N := 66) rfl ?_); refine Kd.R_lit k45 (w0 := w) w.heap.size 45 ?hg (N := 66) ?hd (xs := ([⟨1, node, f.x, f.y, f.w, f.h, q36, 0, ⟨#[]⟩⟩] : List S45)) (inner := [.int .i64 1, .int .i64 node, .int .i64 (f.x), .int .i64 (f.y), .int .i64 (f.w), .int .i64 (f.h), .int .i64 q36, .int .i64 0, .string ⟨#[]⟩]) (ok := fun _ => True) (okp := fun _ => True) ?hr ?hp (fun _ hk => hk) trivial HB3.out (below_size HB3.out) (by simp) ?_; (case hd => rfl); (case hg => rfl); (case hr => first | (go_simp; done) | (go_simp; rfl)); (case hp => exact Reps.c9 (show Kd.M k45 _ _ _ (⟨1, node, f.x, f.y, f.w, f.h, q36, 0, ⟨#[]⟩⟩ : S45) [.int .i64 1, .int .i64 node, .int .i64 (f.x), .int .i64 (f.y), .int .i64 (f.w), .int .i64 (f.h), .int .i64 q36, .int .i64 0, .string ⟨#[]⟩] from k45_mkM _ _ _ (⟨1, node, f.x, f.y, f.w, f.h, q36, 0, ⟨#[]⟩⟩)) (Reps.none _ _)); intro v10 w4 hr4 hb4 hg4 hat4; have Kgs_4 := Aside0.mk (blk_grown Kgs_3.out hg4 (by simp)); have Kgf_4 := Aside0.mk (blk_grown Kgf_3.out hg4 (by simp)); have HB4 := Aside0.mk hb4; obtain ⟨A10, c10, hv10, _, _⟩ := Kd.R_reads hr4; obtain ⟨M, hM⟩ : ∃ M, w4.heap.size = M := ⟨_, rfl⟩; have hr5 := Kd.R_mono (ok' := fun k => k < M) (Kd.R_bound hr4) (fun k hk => by have := hk.2.2.1; omega); have HM_4 := Aside0.mk (Nat.le_of_eq hM.symm); subst hv10; have HR_4 : Aside0 (Kd.R k45 45 w4 w.heap.size (fun k => k < M) (.slice A10 1 c10) [⟨1, node, f.x, f.y, f.w, f.h, q36, 0, ⟨#[]⟩⟩]) := ⟨hr5⟩; clear hr4 hb4 hg4 hat4 hM hr5) | ((with_reducible refine gate_dst (N := 68) rfl ?_); refine wpList_load_row rfl 25 _ rfl gs rfl 25 _ (0, 0) _ Kgs_4.out Try.underlying25 rfl (by rw [hsz]; kernel_rfl) ?_) | (go_at_call 13; (with_reducible refine (KCM.out _).mono ?_); rintro e w5 ⟨rfl, hb⟩; have Kgs_5 := Aside0.mk (blk_below Kgs_4.out hb); have Kgf_5 := Aside0.mk (blk_below Kgf_4.out hb); have HR_5 := Aside0.mk (Kd.R_below HR_4.out hb); have HM_5 := Aside0.mk (Nat.le_trans HM_4.out hb.size); have HB5 := Aside0.mk (below_step HB4.out hb); clear hb) | ((with_reducible refine gate_dst (N := 12) rfl ?_); refine box_event rfl (N := 12) rfl (cs := #[.int .i64 0, .int .i64 0, .int .i64 0, .int .i64 0]) (t := 28) (by first | (go_simp; done) | (go_simp; rfl)) ?_; intro g12 hg_ w6 hbx hb; have Kg12_6 := Aside0.mk hbx; have Bg12 := Aside0.mk (show w.heap.size ≤ g12 by have := HB5.out.size; omega); have Kgf_6 := Aside0.mk (blk_below Kgf_5.out hb); have Ngfg12 : gf ≠ g12 := (by have h1 := blk_lt Kgf_5.out; omega); have Kgs_6 := Aside0.mk (blk_below Kgs_5.out hb); have Ngsg12 : gs ≠ g12 := (by have h1 := blk_lt Kgs_5.out; omega); have HR_6 := Aside0.mk (Kd.R_below HR_5.out hb); have HM_6 := Aside0.mk (Nat.le_trans HM_5.out hb.size); have Mg12 : ∀ k, k < M → k ≠ g12 := (by intro k hk; have := HM_5.out; omega); have HB6 := Aside0.mk (below_step HB5.out hb); clear hg_ hbx hb) | ((with_reducible refine gate_dst (N := 13) rfl ?_); refine box_event rfl (N := 13) rfl (cs := #[.int .i64 0, .int .i64 0, .int .i64 0, .int .i64 0]) (t := 28) (by first | (go_simp; done) | (go_simp; rfl)) ?_; intro g13 hg_ w7 hbx hb; have Kg13_7 := Aside0.mk hbx; have Bg13 := Aside0.mk (show w.heap.size ≤ g13 by have := HB6.out.size; omega); have Kgf_7 := Aside0.mk (blk_below Kgf_6.out hb); have Ngfg13 : gf ≠ g13 := (by have h1 := blk_lt Kgf_6.out; omega); have Kgs_7 := Aside0.mk (blk_below Kgs_6.out hb); have Ngsg13 : gs ≠ g13 := (by have h1 := blk_lt Kgs_6.out; omega); have Kg12_7 := Aside0.mk (blk_below Kg12_6.out hb); have Ng12g13 : g12 ≠ g13 := (by have h1 := blk_lt Kg12_6.out; omega); have HR_7 := Aside0.mk (Kd.R_below HR_6.out hb); have HM_7 := Aside0.mk (Nat.le_trans HM_6.out hb.size); have Mg13 : ∀ k, k < M → k ≠ g13 := (by intro k hk; have := HM_6.out; omega); have HB7 := Aside0.mk (below_step HB6.out hb); clear hg_ hbx hb) | ((with_reducible refine gate_dst (N := 14) rfl ?_); refine box_event rfl (N := 14) rfl (cs := #[.int .i64 0, .int .i64 0, .int .i64 0, .int .i64 0]) (t := 28) (by first | (go_simp; done) | (go_simp; rfl)) ?_; intro g14 hg_ w8 hbx hb; have Kg14_8 := Aside0.mk hbx; have Bg14 := Aside0.mk (show w.heap.size ≤ g14 by have := HB7.out.size; omega); have Kgf_8 := Aside0.mk (blk_below Kgf_7.out hb); have Ngfg14 : gf ≠ g14 := (by have h1 := blk_lt Kgf_7.out; omega); have Kgs_8 := Aside0.mk (blk_below Kgs_7.out hb); have Ngsg14 : gs ≠ g14 := (by have h1 := blk_lt Kgs_7.out; omega); have Kg12_8 := Aside0.mk (blk_below Kg12_7.out hb); have Ng12g14 : g12 ≠ g14 := (by have h1 := blk_lt Kg12_7.out; omega); have Kg13_8 := Aside0.mk (blk_below Kg13_7.out hb); have Ng13g14 : g13 ≠ g14 := (by have h1 := blk_lt Kg13_7.out; omega); have HR_8 := Aside0.mk (Kd.R_below HR_7.out hb); have HM_8 := Aside0.mk (Nat.le_trans HM_7.out hb.size); have Mg14 : ∀ k, k < M → k ≠ g14 := (by intro k hk; have := HM_7.out; omega); have HB8 := Aside0.mk (below_step HB7.out hb); clear hg_ hbx hb) | (refine wpList_store_mid rfl 28 (.tmp 12) (.tmp 70) rfl g12 0 #[.int .i64 e10, .int .i64 e11, .int .i64 e12, .int .i64 e13] rfl rfl (there_row (cs := #[.int .i64 0, .int .i64 0, .int .i64 0, .int .i64 0]) Kg12_8.out _ (Nat.le_refl 4)) (by kernel_rfl) (one4 _ _ _ _) ?_; have Kg12_9 := Aside0.mk (sets_row (vs := #[.int .i64 e10, .int .i64 e11, .int .i64 e12, .int .i64 e13]) Kg12_8.out (by rfl)); have Kgf_9 := Aside0.mk ((sets_far Ngfg12 (#[.int .i64 e10, .int .i64 e11, .int .i64 e12, .int .i64 e13] : Array Value).toList 0 w8).trans Kgf_8.out); have Kgs_9 := Aside0.mk ((sets_far Ngsg12 (#[.int .i64 e10, .int .i64 e11, .int .i64 e12, .int .i64 e13] : Array Value).toList 0 w8).trans Kgs_8.out); have Kg13_9 := Aside0.mk ((sets_far Ng12g13.symm (#[.int .i64 e10, .int .i64 e11, .int .i64 e12, .int .i64 e13] : Array Value).toList 0 w8).trans Kg13_8.out); have Kg14_9 := Aside0.mk ((sets_far Ng12g14.symm (#[.int .i64 e10, .int .i64 e11, .int .i64 e12, .int .i64 e13] : Array Value).toList 0 w8).trans Kg14_8.out); have HR_9 := Aside0.mk (R_sets Mg12 (#[.int .i64 e10, .int .i64 e11, .int .i64 e12, .int .i64 e13] : Array Value).toList 0 w8 HR_8.out); have HB9 := Aside0.mk (sets_below Bg12.out (#[.int .i64 e10, .int .i64 e11, .int .i64 e12, .int .i64 e13] : Array Value).toList 0 w8 HB8.out); generalize w8.setCells g12 0 (#[.int .i64 e10, .int .i64 e11, .int .i64 e12, .int .i64 e13] : Array Value).toList = w9 at Kg12_9 Kgf_9 Kgs_9 Kg13_9 Kg14_9 HR_9 HB9 ⊢) | (refine wpList_store_mid rfl 28 (.tmp 13) (.tmp 71) rfl g13 0 #[.int .i64 tp, .int .i64 rt, .int .i64 bt, .int .i64 lf] rfl rfl (there_row (cs := #[.int .i64 0, .int .i64 0, .int .i64 0, .int .i64 0]) Kg13_9.out _ (Nat.le_refl 4)) (by kernel_rfl) (one4 _ _ _ _) ?_; have Kg13_10 := Aside0.mk (sets_row (vs := #[.int .i64 tp, .int .i64 rt, .int .i64 bt, .int .i64 lf]) Kg13_9.out (by rfl)); have Kgf_10 := Aside0.mk ((sets_far Ngfg13 (#[.int .i64 tp, .int .i64 rt, .int .i64 bt, .int .i64 lf] : Array Value).toList 0 w9).trans Kgf_9.out); have Kgs_10 := Aside0.mk ((sets_far Ngsg13 (#[.int .i64 tp, .int .i64 rt, .int .i64 bt, .int .i64 lf] : Array Value).toList 0 w9).trans Kgs_9.out); have Kg14_10 := Aside0.mk ((sets_far Ng13g14.symm (#[.int .i64 tp, .int .i64 rt, .int .i64 bt, .int .i64 lf] : Array Value).toList 0 w9).trans Kg14_9.out); have HR_10 := Aside0.mk (R_sets Mg13 (#[.int .i64 tp, .int .i64 rt, .int .i64 bt, .int .i64 lf] : Array Value).toList 0 w9 HR_9.out); have HB10 := Aside0.mk (sets_below Bg13.out (#[.int .i64 tp, .int .i64 rt, .int .i64 bt, .int .i64 lf] : Array Value).toList 0 w9 HB9.out); generalize w9.setCells g13 0 (#[.int .i64 tp, .int .i64 rt, .int .i64 bt, .int .i64 lf] : Array Value).toList = w10 at Kg13_10 Kgf_10 Kgs_10 Kg14_10 HR_10 HB10 ⊢) | (refine wpList_store_mid rfl 28 (.tmp 14) (.tmp 72) rfl g14 0 #[.int .i64 e30, .int .i64 e31, .int .i64 e32, .int .i64 e33] rfl rfl (there_row (cs := #[.int .i64 0, .int .i64 0, .int .i64 0, .int .i64 0]) Kg14_10.out _ (Nat.le_refl 4)) (by kernel_rfl) (one4 _ _ _ _) ?_; have Kg14_11 := Aside0.mk (sets_row (vs := #[.int .i64 e30, .int .i64 e31, .int .i64 e32, .int .i64 e33]) Kg14_10.out (by rfl)); have Kgf_11 := Aside0.mk ((sets_far Ngfg14 (#[.int .i64 e30, .int .i64 e31, .int .i64 e32, .int .i64 e33] : Array Value).toList 0 w10).trans Kgf_10.out); have Kgs_11 := Aside0.mk ((sets_far Ngsg14 (#[.int .i64 e30, .int .i64 e31, .int .i64 e32, .int .i64 e33] : Array Value).toList 0 w10).trans Kgs_10.out); have Kg13_11 := Aside0.mk ((sets_far Ng13g14 (#[.int .i64 e30, .int .i64 e31, .int .i64 e32, .int .i64 e33] : Array Value).toList 0 w10).trans Kg13_10.out); have HR_11 := Aside0.mk (R_sets Mg14 (#[.int .i64 e30, .int .i64 e31, .int .i64 e32, .int .i64 e33] : Array Value).toList 0 w10 HR_10.out); have HB11 := Aside0.mk (sets_below Bg14.out (#[.int .i64 e30, .int .i64 e31, .int .i64 e32, .int .i64 e33] : Array Value).toList 0 w10 HB10.out); generalize w10.setCells g14 0 (#[.int .i64 e30, .int .i64 e31, .int .i64 e32, .int .i64 e33] : Array Value).toList = w11 at Kg14_11 Kgf_11 Kgs_11 Kg13_11 HR_11 HB11 ⊢; have c3 : w11.cell? ⟨gf, 3, none⟩ = some (.int .i64 (f.x)) := (blk_cell Kgf_11.out 3).trans AF3.out; have c4 : w11.cell? ⟨gf, 4, none⟩ = some (.int .i64 (f.y)) := (blk_cell Kgf_11.out 4).trans AF4.out; have c5 : w11.cell? ⟨gf, 5, none⟩ = some (.int .i64 (f.w)) := (blk_cell Kgf_11.out 5).trans AF5.out; have c6 : w11.cell? ⟨gf, 6, none⟩ = some (.int .i64 (f.h)) := (blk_cell Kgf_11.out 6).trans AF6.out; have d0 : w11.cell? ⟨g13, 0, none⟩ = some (.int .i64 tp) := (blk_cell Kg13_11.out 0).trans rfl; have d1 : w11.cell? ⟨g13, 1, none⟩ = some (.int .i64 rt) := (blk_cell Kg13_11.out 1).trans rfl; have d2 : w11.cell? ⟨g13, 2, none⟩ = some (.int .i64 bt) := (blk_cell Kg13_11.out 2).trans rfl; have d3 : w11.cell? ⟨g13, 3, none⟩ = some (.int .i64 lf) := (blk_cell Kg13_11.out 3).trans rfl) | (go_at_call 60; have hfc := fill_call (L := [⟨1, node, f.x, f.y, f.w, f.h, q36, 0, ⟨#[]⟩⟩]) (n := 1) rfl (by simp) HR_11.out; (with_reducible refine hfc.mono ?_); clear hfc; rintro e w15 ⟨v15, rfl, hr_, hb⟩; have HR15 := Aside0.mk hr_; have HBx := Aside0.mk HB11.out.size; have HB15 := Aside0.mk (below_step HB11.out hb); clear hb hr_))
  go_ret
  exact ⟨_, rfl, by rw [← HRES.out]; exact Kd.R_lower HR15.out HBx.out, HB15.out⟩
set_option maxHeartbeats 8000000 in
set_option maxRecDepth 100000 in
theorem paint_Frag.box (f : Fr) (kind : Int) (xs : List Int) (hl : xs.length = 118) (w : World) (hv : ¬ xs.getD 67 0 = 1) (hk : ¬ kind = 4) (h8 : ¬ kind = 8) :
    Calls Try.prog 24 #[.agg (frc f), .int .i64 kind, sty xs] w fun e w' => ∃ v0, e = .returned v0 ∧ Kd.R k45 45 w' w.heap.size (fun _ => True) v0 (fillsOf f kind xs) ∧ Below w.heap.size w w' := by
  unfold sty
  obtain ⟨a, ha⟩ : ∃ a, (nums .i64 xs).toArray = a := ⟨_, rfl⟩
  have hsz : a.size = 118 := by rw [← ha]; simp [nums, hl]
  have HA := Aside0.mk ha
  have HL := Aside0.mk hl
  have A67 : Aside0 (a[67]? = some (.int .i64 (xs.getD 67 0))) := ⟨by rw [← ha]; simp [nums, hl]⟩
  rw [ha]
  clear ha hl
  obtain ⟨F, hF⟩ : ∃ F, frc f = F := ⟨_, rfl⟩
  have HF := Aside0.mk hF
  rw [hF]
  clear hF
  have HB := Aside0.mk (Below.refl w.heap.size w)
  rw [← fills_box f kind xs h8]
  have b8 : (kind != 8) = true := bne_iff_ne.mpr h8
  unfold bgL boxL cmdS
  clear h8
  obtain ⟨vis, hvis⟩ : ∃ q, xs.getD 67 0 = q := ⟨_, rfl⟩
  rw [hvis] at A67 hv
  clear hvis
  have bv : (vis == 1) = false := beq_eq_false_iff_ne.mpr hv
  have bk : (kind == 4) = false := beq_eq_false_iff_ne.mpr hk
  clear hv hk
  obtain ⟨node, hnode⟩ : ∃ z, f.f1 = z := ⟨_, rfl⟩
  obtain ⟨q36, hq36⟩ : ∃ z, xs.getD 73 0 = z := ⟨_, rfl⟩
  have CF36 : Aside0 (∀ (gf gs : Nat) (w : World) (x y ww hh : Int), w.heap[gf]? = some (.cells F 41 (0, 0)) → w.heap[gs]? = some (.cells a 25 (0, 0)) → Calls Try.prog 59 #[.int .i64 x, .int .i64 y, .int .i64 ww, .int .i64 hh, .int .i64 36, .pointer (some ⟨gf, 0, none⟩), .pointer (some ⟨gs, 0, none⟩)] w fun e w' => e = .returned (.agg #[.int .i64 1, .int .i64 node, .int .i64 x, .int .i64 y, .int .i64 ww, .int .i64 hh, .int .i64 q36, .int .i64 0, .string ⟨#[]⟩]) ∧ Below w.heap.size w w') := ⟨fun gf gs w x y ww hh hf hs => by
    have h := paint_Frag_1_36.calls f xs HL.out x y ww hh gf gs w (by rw [HF.out]; exact hf) (by rw [HA.out]; exact hs)
    unfold cmdv at h
    rw [hq36, hnode] at h
    exact h⟩
  obtain ⟨q23, hq23⟩ : ∃ z, xs.getD 47 0 = z := ⟨_, rfl⟩
  have CF23 : Aside0 (∀ (gf gs : Nat) (w : World) (x y ww hh : Int), w.heap[gf]? = some (.cells F 41 (0, 0)) → w.heap[gs]? = some (.cells a 25 (0, 0)) → Calls Try.prog 59 #[.int .i64 x, .int .i64 y, .int .i64 ww, .int .i64 hh, .int .i64 23, .pointer (some ⟨gf, 0, none⟩), .pointer (some ⟨gs, 0, none⟩)] w fun e w' => e = .returned (.agg #[.int .i64 1, .int .i64 node, .int .i64 x, .int .i64 y, .int .i64 ww, .int .i64 hh, .int .i64 q23, .int .i64 0, .string ⟨#[]⟩]) ∧ Below w.heap.size w w') := ⟨fun gf gs w x y ww hh hf hs => by
    have h := paint_Frag_1_23.calls f xs HL.out x y ww hh gf gs w (by rw [HF.out]; exact hf) (by rw [HA.out]; exact hs)
    unfold cmdv at h
    rw [hq23, hnode] at h
    exact h⟩
  obtain ⟨q24, hq24⟩ : ∃ z, xs.getD 49 0 = z := ⟨_, rfl⟩
  have CF24 : Aside0 (∀ (gf gs : Nat) (w : World) (x y ww hh : Int), w.heap[gf]? = some (.cells F 41 (0, 0)) → w.heap[gs]? = some (.cells a 25 (0, 0)) → Calls Try.prog 59 #[.int .i64 x, .int .i64 y, .int .i64 ww, .int .i64 hh, .int .i64 24, .pointer (some ⟨gf, 0, none⟩), .pointer (some ⟨gs, 0, none⟩)] w fun e w' => e = .returned (.agg #[.int .i64 1, .int .i64 node, .int .i64 x, .int .i64 y, .int .i64 ww, .int .i64 hh, .int .i64 q24, .int .i64 0, .string ⟨#[]⟩]) ∧ Below w.heap.size w w') := ⟨fun gf gs w x y ww hh hf hs => by
    have h := paint_Frag_1_24.calls f xs HL.out x y ww hh gf gs w (by rw [HF.out]; exact hf) (by rw [HA.out]; exact hs)
    unfold cmdv at h
    rw [hq24, hnode] at h
    exact h⟩
  obtain ⟨q25, hq25⟩ : ∃ z, xs.getD 51 0 = z := ⟨_, rfl⟩
  have CF25 : Aside0 (∀ (gf gs : Nat) (w : World) (x y ww hh : Int), w.heap[gf]? = some (.cells F 41 (0, 0)) → w.heap[gs]? = some (.cells a 25 (0, 0)) → Calls Try.prog 59 #[.int .i64 x, .int .i64 y, .int .i64 ww, .int .i64 hh, .int .i64 25, .pointer (some ⟨gf, 0, none⟩), .pointer (some ⟨gs, 0, none⟩)] w fun e w' => e = .returned (.agg #[.int .i64 1, .int .i64 node, .int .i64 x, .int .i64 y, .int .i64 ww, .int .i64 hh, .int .i64 q25, .int .i64 0, .string ⟨#[]⟩]) ∧ Below w.heap.size w w') := ⟨fun gf gs w x y ww hh hf hs => by
    have h := paint_Frag_1_25.calls f xs HL.out x y ww hh gf gs w (by rw [HF.out]; exact hf) (by rw [HA.out]; exact hs)
    unfold cmdv at h
    rw [hq25, hnode] at h
    exact h⟩
  obtain ⟨q26, hq26⟩ : ∃ z, xs.getD 53 0 = z := ⟨_, rfl⟩
  have CF26 : Aside0 (∀ (gf gs : Nat) (w : World) (x y ww hh : Int), w.heap[gf]? = some (.cells F 41 (0, 0)) → w.heap[gs]? = some (.cells a 25 (0, 0)) → Calls Try.prog 59 #[.int .i64 x, .int .i64 y, .int .i64 ww, .int .i64 hh, .int .i64 26, .pointer (some ⟨gf, 0, none⟩), .pointer (some ⟨gs, 0, none⟩)] w fun e w' => e = .returned (.agg #[.int .i64 1, .int .i64 node, .int .i64 x, .int .i64 y, .int .i64 ww, .int .i64 hh, .int .i64 q26, .int .i64 0, .string ⟨#[]⟩]) ∧ Below w.heap.size w w') := ⟨fun gf gs w x y ww hh hf hs => by
    have h := paint_Frag_1_26.calls f xs HL.out x y ww hh gf gs w (by rw [HF.out]; exact hf) (by rw [HA.out]; exact hs)
    unfold cmdv at h
    rw [hq26, hnode] at h
    exact h⟩
  have AF3 : Aside0 (F[3]? = some (.int .i64 (f.x))) := ⟨by rw [← HF.out]; rfl⟩
  have AF4 : Aside0 (F[4]? = some (.int .i64 (f.y))) := ⟨by rw [← HF.out]; rfl⟩
  have AF5 : Aside0 (F[5]? = some (.int .i64 (f.w))) := ⟨by rw [← HF.out]; rfl⟩
  have AF6 : Aside0 (F[6]? = some (.int .i64 (f.h))) := ⟨by rw [← HF.out]; rfl⟩
  have CM := fun w => margins_Frame.calls xs 0 HL.out w
  unfold sty at CM
  rw [HA.out] at CM
  have hmid : edgA xs 19 0 = .agg #[.int .i64 (top_ xs), .int .i64 (right_ xs), .int .i64 (bot_ xs), .int .i64 (left_ xs)] := rfl
  obtain ⟨e10, e11, e12, e13, he1⟩ : ∃ x0 x1 x2 x3, edg xs 11 0 = .agg #[.int .i64 x0, .int .i64 x1, .int .i64 x2, .int .i64 x3] := ⟨_, _, _, _, rfl⟩
  obtain ⟨e30, e31, e32, e33, he3⟩ : ∃ x0 x1 x2 x3, edgA xs 15 0 = .agg #[.int .i64 x0, .int .i64 x1, .int .i64 x2, .int .i64 x3] := ⟨_, _, _, _, rfl⟩
  rw [hmid, he1, he3] at CM
  clear hmid he1 he3
  obtain ⟨tp, htp⟩ : ∃ z, top_ xs = z := ⟨_, rfl⟩
  obtain ⟨rt, hrt⟩ : ∃ z, right_ xs = z := ⟨_, rfl⟩
  obtain ⟨bt, hbt⟩ : ∃ z, bot_ xs = z := ⟨_, rfl⟩
  obtain ⟨lf, hlf⟩ : ∃ z, left_ xs = z := ⟨_, rfl⟩
  rw [htp, hrt, hbt, hlf] at CM
  have KCM := Aside0.mk CM
  clear CM
  rw [hq36, hq23, hq24, hq25, hq26, htp, hrt, hbt, hlf, hnode]
  obtain ⟨RES, hRES⟩ : ∃ r, List.filter passS (([⟨1, node, f.x, f.y, f.w, f.h, q36, 0, ⟨#[]⟩⟩] : List S45) ++ ([⟨1, node, f.x, f.y, f.w, tp, q23, 0, ⟨#[]⟩⟩, ⟨1, node, wrap64 (wrap64 (f.x + f.w) - rt), wrap64 (f.y + tp), rt, wrap64 (wrap64 (f.h - tp) - bt), q24, 0, ⟨#[]⟩⟩, ⟨1, node, f.x, wrap64 (wrap64 (f.y + f.h) - bt), f.w, bt, q25, 0, ⟨#[]⟩⟩, ⟨1, node, f.x, wrap64 (f.y + tp), lf, wrap64 (wrap64 (f.h - tp) - bt), q26, 0, ⟨#[]⟩⟩] : List S45)) = r := ⟨_, rfl⟩
  rw [hRES]
  have HRES := Aside0.mk hRES
  clear hRES hq36 hq23 hq24 hq25 hq26 hnode htp hrt hbt hlf
  go_enter Try.func24, Try.ntmps24
  go_wp2_with (first | ((with_reducible refine gate_dst (N := 3) rfl ?_); refine box_event rfl (N := 3) rfl (cs := F) (t := 41) (by first | (go_simp; done) | (go_simp; rfl)) ?_; intro gf hg_ w1 hbx hb; have Kgf_1 := Aside0.mk hbx; have Bgf := Aside0.mk (show w.heap.size ≤ gf by have := HB.out.size; omega); have HB1 := Aside0.mk (below_step HB.out hb); clear hg_ hbx hb) | ((with_reducible refine gate_dst (N := 5) rfl ?_); refine box_event rfl (N := 5) rfl (cs := a) (t := 25) (by first | (go_simp; done) | (go_simp; rfl)) ?_; intro gs hg_ w2 hbx hb; have Kgs_2 := Aside0.mk hbx; have Bgs := Aside0.mk (show w.heap.size ≤ gs by have := HB1.out.size; omega); have Kgf_2 := Aside0.mk (blk_below Kgf_1.out hb); have Ngfgs : gf ≠ gs := (by have h1 := blk_lt Kgf_1.out; omega); have HB2 := Aside0.mk (below_step HB1.out hb); clear hg_ hbx hb; have v67 : w2.cell? ⟨gs, 67, none⟩ = some (.int .i64 vis) := (blk_cell Kgs_2.out 67).trans A67.out; have c3 : w2.cell? ⟨gf, 3, none⟩ = some (.int .i64 (f.x)) := (blk_cell Kgf_2.out 3).trans AF3.out; have c4 : w2.cell? ⟨gf, 4, none⟩ = some (.int .i64 (f.y)) := (blk_cell Kgf_2.out 4).trans AF4.out; have c5 : w2.cell? ⟨gf, 5, none⟩ = some (.int .i64 (f.w)) := (blk_cell Kgf_2.out 5).trans AF5.out; have c6 : w2.cell? ⟨gf, 6, none⟩ = some (.int .i64 (f.h)) := (blk_cell Kgf_2.out 6).trans AF6.out) | (go_at_call 59; (with_reducible refine (CF36.out gf gs _ _ _ _ _ Kgf_2.out Kgs_2.out).mono ?_); rintro e w3 ⟨rfl, hb⟩; have Kgs_3 := Aside0.mk (blk_below Kgs_2.out hb); have Kgf_3 := Aside0.mk (blk_below Kgf_2.out hb); have HB3 := Aside0.mk (below_step HB2.out hb); clear hb v67 c3 c4 c5 c6) | ((with_reducible refine gate_dst (N := 66) rfl ?_); refine Kd.R_lit k45 (w0 := w) w.heap.size 45 ?hg (N := 66) ?hd (xs := ([⟨1, node, f.x, f.y, f.w, f.h, q36, 0, ⟨#[]⟩⟩] : List S45)) (inner := [.int .i64 1, .int .i64 node, .int .i64 (f.x), .int .i64 (f.y), .int .i64 (f.w), .int .i64 (f.h), .int .i64 q36, .int .i64 0, .string ⟨#[]⟩]) (ok := fun _ => True) (okp := fun _ => True) ?hr ?hp (fun _ hk => hk) trivial HB3.out (below_size HB3.out) (by simp) ?_; (case hd => rfl); (case hg => rfl); (case hr => first | (go_simp; done) | (go_simp; rfl)); (case hp => exact Reps.c9 (show Kd.M k45 _ _ _ (⟨1, node, f.x, f.y, f.w, f.h, q36, 0, ⟨#[]⟩⟩ : S45) [.int .i64 1, .int .i64 node, .int .i64 (f.x), .int .i64 (f.y), .int .i64 (f.w), .int .i64 (f.h), .int .i64 q36, .int .i64 0, .string ⟨#[]⟩] from k45_mkM _ _ _ (⟨1, node, f.x, f.y, f.w, f.h, q36, 0, ⟨#[]⟩⟩)) (Reps.none _ _)); intro v10 w4 hr4 hb4 hg4 hat4; have Kgs_4 := Aside0.mk (blk_grown Kgs_3.out hg4 (by simp)); have Kgf_4 := Aside0.mk (blk_grown Kgf_3.out hg4 (by simp)); have HB4 := Aside0.mk hb4; obtain ⟨A10, c10, hv10, _, _⟩ := Kd.R_reads hr4; obtain ⟨M, hM⟩ : ∃ M, w4.heap.size = M := ⟨_, rfl⟩; have hr5 := Kd.R_mono (ok' := fun k => k < M) (Kd.R_bound hr4) (fun k hk => by have := hk.2.2.1; omega); have HM_4 := Aside0.mk (Nat.le_of_eq hM.symm); subst hv10; have HR_4 : Aside0 (Kd.R k45 45 w4 w.heap.size (fun k => k < M) (.slice A10 1 c10) [⟨1, node, f.x, f.y, f.w, f.h, q36, 0, ⟨#[]⟩⟩]) := ⟨hr5⟩; clear hr4 hb4 hg4 hat4 hM hr5) | ((with_reducible refine gate_dst (N := 68) rfl ?_); refine wpList_load_row rfl 25 _ rfl gs rfl 25 _ (0, 0) _ Kgs_4.out Try.underlying25 rfl (by rw [hsz]; kernel_rfl) ?_) | (go_at_call 13; (with_reducible refine (KCM.out _).mono ?_); rintro e w5 ⟨rfl, hb⟩; have Kgs_5 := Aside0.mk (blk_below Kgs_4.out hb); have Kgf_5 := Aside0.mk (blk_below Kgf_4.out hb); have HR_5 := Aside0.mk (Kd.R_below HR_4.out hb); have HM_5 := Aside0.mk (Nat.le_trans HM_4.out hb.size); have HB5 := Aside0.mk (below_step HB4.out hb); clear hb) | ((with_reducible refine gate_dst (N := 12) rfl ?_); refine box_event rfl (N := 12) rfl (cs := #[.int .i64 0, .int .i64 0, .int .i64 0, .int .i64 0]) (t := 28) (by first | (go_simp; done) | (go_simp; rfl)) ?_; intro g12 hg_ w6 hbx hb; have Kg12_6 := Aside0.mk hbx; have Bg12 := Aside0.mk (show w.heap.size ≤ g12 by have := HB5.out.size; omega); have Kgf_6 := Aside0.mk (blk_below Kgf_5.out hb); have Ngfg12 : gf ≠ g12 := (by have h1 := blk_lt Kgf_5.out; omega); have Kgs_6 := Aside0.mk (blk_below Kgs_5.out hb); have Ngsg12 : gs ≠ g12 := (by have h1 := blk_lt Kgs_5.out; omega); have HR_6 := Aside0.mk (Kd.R_below HR_5.out hb); have HM_6 := Aside0.mk (Nat.le_trans HM_5.out hb.size); have Mg12 : ∀ k, k < M → k ≠ g12 := (by intro k hk; have := HM_5.out; omega); have HB6 := Aside0.mk (below_step HB5.out hb); clear hg_ hbx hb) | ((with_reducible refine gate_dst (N := 13) rfl ?_); refine box_event rfl (N := 13) rfl (cs := #[.int .i64 0, .int .i64 0, .int .i64 0, .int .i64 0]) (t := 28) (by first | (go_simp; done) | (go_simp; rfl)) ?_; intro g13 hg_ w7 hbx hb; have Kg13_7 := Aside0.mk hbx; have Bg13 := Aside0.mk (show w.heap.size ≤ g13 by have := HB6.out.size; omega); have Kgf_7 := Aside0.mk (blk_below Kgf_6.out hb); have Ngfg13 : gf ≠ g13 := (by have h1 := blk_lt Kgf_6.out; omega); have Kgs_7 := Aside0.mk (blk_below Kgs_6.out hb); have Ngsg13 : gs ≠ g13 := (by have h1 := blk_lt Kgs_6.out; omega); have Kg12_7 := Aside0.mk (blk_below Kg12_6.out hb); have Ng12g13 : g12 ≠ g13 := (by have h1 := blk_lt Kg12_6.out; omega); have HR_7 := Aside0.mk (Kd.R_below HR_6.out hb); have HM_7 := Aside0.mk (Nat.le_trans HM_6.out hb.size); have Mg13 : ∀ k, k < M → k ≠ g13 := (by intro k hk; have := HM_6.out; omega); have HB7 := Aside0.mk (below_step HB6.out hb); clear hg_ hbx hb) | ((with_reducible refine gate_dst (N := 14) rfl ?_); refine box_event rfl (N := 14) rfl (cs := #[.int .i64 0, .int .i64 0, .int .i64 0, .int .i64 0]) (t := 28) (by first | (go_simp; done) | (go_simp; rfl)) ?_; intro g14 hg_ w8 hbx hb; have Kg14_8 := Aside0.mk hbx; have Bg14 := Aside0.mk (show w.heap.size ≤ g14 by have := HB7.out.size; omega); have Kgf_8 := Aside0.mk (blk_below Kgf_7.out hb); have Ngfg14 : gf ≠ g14 := (by have h1 := blk_lt Kgf_7.out; omega); have Kgs_8 := Aside0.mk (blk_below Kgs_7.out hb); have Ngsg14 : gs ≠ g14 := (by have h1 := blk_lt Kgs_7.out; omega); have Kg12_8 := Aside0.mk (blk_below Kg12_7.out hb); have Ng12g14 : g12 ≠ g14 := (by have h1 := blk_lt Kg12_7.out; omega); have Kg13_8 := Aside0.mk (blk_below Kg13_7.out hb); have Ng13g14 : g13 ≠ g14 := (by have h1 := blk_lt Kg13_7.out; omega); have HR_8 := Aside0.mk (Kd.R_below HR_7.out hb); have HM_8 := Aside0.mk (Nat.le_trans HM_7.out hb.size); have Mg14 : ∀ k, k < M → k ≠ g14 := (by intro k hk; have := HM_7.out; omega); have HB8 := Aside0.mk (below_step HB7.out hb); clear hg_ hbx hb) | (refine wpList_store_mid rfl 28 (.tmp 12) (.tmp 70) rfl g12 0 #[.int .i64 e10, .int .i64 e11, .int .i64 e12, .int .i64 e13] rfl rfl (there_row (cs := #[.int .i64 0, .int .i64 0, .int .i64 0, .int .i64 0]) Kg12_8.out _ (Nat.le_refl 4)) (by kernel_rfl) (one4 _ _ _ _) ?_; have Kg12_9 := Aside0.mk (sets_row (vs := #[.int .i64 e10, .int .i64 e11, .int .i64 e12, .int .i64 e13]) Kg12_8.out (by rfl)); have Kgf_9 := Aside0.mk ((sets_far Ngfg12 (#[.int .i64 e10, .int .i64 e11, .int .i64 e12, .int .i64 e13] : Array Value).toList 0 w8).trans Kgf_8.out); have Kgs_9 := Aside0.mk ((sets_far Ngsg12 (#[.int .i64 e10, .int .i64 e11, .int .i64 e12, .int .i64 e13] : Array Value).toList 0 w8).trans Kgs_8.out); have Kg13_9 := Aside0.mk ((sets_far Ng12g13.symm (#[.int .i64 e10, .int .i64 e11, .int .i64 e12, .int .i64 e13] : Array Value).toList 0 w8).trans Kg13_8.out); have Kg14_9 := Aside0.mk ((sets_far Ng12g14.symm (#[.int .i64 e10, .int .i64 e11, .int .i64 e12, .int .i64 e13] : Array Value).toList 0 w8).trans Kg14_8.out); have HR_9 := Aside0.mk (R_sets Mg12 (#[.int .i64 e10, .int .i64 e11, .int .i64 e12, .int .i64 e13] : Array Value).toList 0 w8 HR_8.out); have HB9 := Aside0.mk (sets_below Bg12.out (#[.int .i64 e10, .int .i64 e11, .int .i64 e12, .int .i64 e13] : Array Value).toList 0 w8 HB8.out); generalize w8.setCells g12 0 (#[.int .i64 e10, .int .i64 e11, .int .i64 e12, .int .i64 e13] : Array Value).toList = w9 at Kg12_9 Kgf_9 Kgs_9 Kg13_9 Kg14_9 HR_9 HB9 ⊢) | (refine wpList_store_mid rfl 28 (.tmp 13) (.tmp 71) rfl g13 0 #[.int .i64 tp, .int .i64 rt, .int .i64 bt, .int .i64 lf] rfl rfl (there_row (cs := #[.int .i64 0, .int .i64 0, .int .i64 0, .int .i64 0]) Kg13_9.out _ (Nat.le_refl 4)) (by kernel_rfl) (one4 _ _ _ _) ?_; have Kg13_10 := Aside0.mk (sets_row (vs := #[.int .i64 tp, .int .i64 rt, .int .i64 bt, .int .i64 lf]) Kg13_9.out (by rfl)); have Kgf_10 := Aside0.mk ((sets_far Ngfg13 (#[.int .i64 tp, .int .i64 rt, .int .i64 bt, .int .i64 lf] : Array Value).toList 0 w9).trans Kgf_9.out); have Kgs_10 := Aside0.mk ((sets_far Ngsg13 (#[.int .i64 tp, .int .i64 rt, .int .i64 bt, .int .i64 lf] : Array Value).toList 0 w9).trans Kgs_9.out); have Kg14_10 := Aside0.mk ((sets_far Ng13g14.symm (#[.int .i64 tp, .int .i64 rt, .int .i64 bt, .int .i64 lf] : Array Value).toList 0 w9).trans Kg14_9.out); have HR_10 := Aside0.mk (R_sets Mg13 (#[.int .i64 tp, .int .i64 rt, .int .i64 bt, .int .i64 lf] : Array Value).toList 0 w9 HR_9.out); have HB10 := Aside0.mk (sets_below Bg13.out (#[.int .i64 tp, .int .i64 rt, .int .i64 bt, .int .i64 lf] : Array Value).toList 0 w9 HB9.out); generalize w9.setCells g13 0 (#[.int .i64 tp, .int .i64 rt, .int .i64 bt, .int .i64 lf] : Array Value).toList = w10 at Kg13_10 Kgf_10 Kgs_10 Kg14_10 HR_10 HB10 ⊢) | (refine wpList_store_mid rfl 28 (.tmp 14) (.tmp 72) rfl g14 0 #[.int .i64 e30, .int .i64 e31, .int .i64 e32, .int .i64 e33] rfl rfl (there_row (cs := #[.int .i64 0, .int .i64 0, .int .i64 0, .int .i64 0]) Kg14_10.out _ (Nat.le_refl 4)) (by kernel_rfl) (one4 _ _ _ _) ?_; have Kg14_11 := Aside0.mk (sets_row (vs := #[.int .i64 e30, .int .i64 e31, .int .i64 e32, .int .i64 e33]) Kg14_10.out (by rfl)); have Kgf_11 := Aside0.mk ((sets_far Ngfg14 (#[.int .i64 e30, .int .i64 e31, .int .i64 e32, .int .i64 e33] : Array Value).toList 0 w10).trans Kgf_10.out); have Kgs_11 := Aside0.mk ((sets_far Ngsg14 (#[.int .i64 e30, .int .i64 e31, .int .i64 e32, .int .i64 e33] : Array Value).toList 0 w10).trans Kgs_10.out); have Kg13_11 := Aside0.mk ((sets_far Ng13g14 (#[.int .i64 e30, .int .i64 e31, .int .i64 e32, .int .i64 e33] : Array Value).toList 0 w10).trans Kg13_10.out); have HR_11 := Aside0.mk (R_sets Mg14 (#[.int .i64 e30, .int .i64 e31, .int .i64 e32, .int .i64 e33] : Array Value).toList 0 w10 HR_10.out); have HB11 := Aside0.mk (sets_below Bg14.out (#[.int .i64 e30, .int .i64 e31, .int .i64 e32, .int .i64 e33] : Array Value).toList 0 w10 HB10.out); generalize w10.setCells g14 0 (#[.int .i64 e30, .int .i64 e31, .int .i64 e32, .int .i64 e33] : Array Value).toList = w11 at Kg14_11 Kgf_11 Kgs_11 Kg13_11 HR_11 HB11 ⊢; have c3 : w11.cell? ⟨gf, 3, none⟩ = some (.int .i64 (f.x)) := (blk_cell Kgf_11.out 3).trans AF3.out; have c4 : w11.cell? ⟨gf, 4, none⟩ = some (.int .i64 (f.y)) := (blk_cell Kgf_11.out 4).trans AF4.out; have c5 : w11.cell? ⟨gf, 5, none⟩ = some (.int .i64 (f.w)) := (blk_cell Kgf_11.out 5).trans AF5.out; have c6 : w11.cell? ⟨gf, 6, none⟩ = some (.int .i64 (f.h)) := (blk_cell Kgf_11.out 6).trans AF6.out; have d0 : w11.cell? ⟨g13, 0, none⟩ = some (.int .i64 tp) := (blk_cell Kg13_11.out 0).trans rfl; have d1 : w11.cell? ⟨g13, 1, none⟩ = some (.int .i64 rt) := (blk_cell Kg13_11.out 1).trans rfl; have d2 : w11.cell? ⟨g13, 2, none⟩ = some (.int .i64 bt) := (blk_cell Kg13_11.out 2).trans rfl; have d3 : w11.cell? ⟨g13, 3, none⟩ = some (.int .i64 lf) := (blk_cell Kg13_11.out 3).trans rfl))
  refine start_ (n := 60) (S := fun w' => w'.cell? ⟨gf, 3, none⟩ = some (.int .i64 (f.x)) ∧ w'.cell? ⟨gf, 4, none⟩ = some (.int .i64 (f.y)) ∧ w'.cell? ⟨gf, 5, none⟩ = some (.int .i64 (f.w)) ∧ w'.cell? ⟨gf, 6, none⟩ = some (.int .i64 (f.h)) ∧ w'.cell? ⟨g13, 0, none⟩ = some (.int .i64 tp) ∧ w'.cell? ⟨g13, 1, none⟩ = some (.int .i64 rt) ∧ w'.cell? ⟨g13, 2, none⟩ = some (.int .i64 bt) ∧ w'.cell? ⟨g13, 3, none⟩ = some (.int .i64 lf) ∧ w'.heap[gf]? = some (.cells F 41 (0, 0)) ∧ w'.heap[gs]? = some (.cells a 25 (0, 0)) ∧ w'.heap[g13]? = some (.cells #[.int .i64 tp, .int .i64 rt, .int .i64 bt, .int .i64 lf] 28 (0, 0)) ∧ Kd.R k45 45 w' w.heap.size (fun k => k < M) (.slice A10 1 c10) [⟨1, node, f.x, f.y, f.w, f.h, q36, 0, ⟨#[]⟩⟩] ∧ Below w.heap.size w w') (ds := [58]) #[false, false, false, false, false, false, false, false, false, false, false, false, false, false, false, false, false, false, false, false, false, false, false, false, false, false, false, false, false, false, false, false, false, false, false, false, false, false, false, false, false, false, false, false, false, false, false, false, false, false, false, false, false, false, false, false, false, false, false, false] (by kernel_rfl) rfl rfl ⟨(blk_cell Kgf_11.out 3).trans AF3.out, (blk_cell Kgf_11.out 4).trans AF4.out, (blk_cell Kgf_11.out 5).trans AF5.out, (blk_cell Kgf_11.out 6).trans AF6.out, (blk_cell Kg13_11.out 0).trans rfl, (blk_cell Kg13_11.out 1).trans rfl, (blk_cell Kg13_11.out 2).trans rfl, (blk_cell Kg13_11.out 3).trans rfl, Kgf_11.out, Kgs_11.out, Kg13_11.out, HR_11.out, below_drew1 HB11.out⟩ (fun hHeld => ?_)
  refine pure_ (i := 0) (N := some 83) (v := ?_) (a' := ?_) #[true, false, false, false, false, false, false, false, false, false, false, false, false, false, false, false, false, false, false, false, false, false, false, false, false, false, false, false, false, false, false, false, false, false, false, false, false, false, false, false, false, false, false, false, false, false, false, false, false, false, false, false, false, false, false, false, false, false, false, false] rfl rfl (by kernel_rfl) (fun _ _ _ h => h) (Or.inl ⟨by rfl, ?_⟩) ?_ ?_
  rotate_left
  · intro w'
    go_simp
    with_reducible rfl
  rotate_left
  · simp only [Act.put, List.setIfInBounds_toArray, List.set_cons_zero, List.set_cons_succ, i64_w, i32_w]
    rfl
  refine pure_ (i := 1) (N := some 84) (v := ?_) (a' := ?_) #[true, true, false, false, false, false, false, false, false, false, false, false, false, false, false, false, false, false, false, false, false, false, false, false, false, false, false, false, false, false, false, false, false, false, false, false, false, false, false, false, false, false, false, false, false, false, false, false, false, false, false, false, false, false, false, false, false, false, false, false] rfl rfl (by kernel_rfl) (fun _ _ _ h => h) (Or.inl ⟨by rfl, ?_⟩) ?_ ?_
  rotate_left
  · intro w'
    go_simp
    with_reducible rfl
  rotate_left
  · simp only [Act.put, List.setIfInBounds_toArray, List.set_cons_zero, List.set_cons_succ, i64_w, i32_w]
    rfl
  refine pure_ (i := 2) (N := some 85) (v := ?_) (a' := ?_) #[true, true, true, false, false, false, false, false, false, false, false, false, false, false, false, false, false, false, false, false, false, false, false, false, false, false, false, false, false, false, false, false, false, false, false, false, false, false, false, false, false, false, false, false, false, false, false, false, false, false, false, false, false, false, false, false, false, false, false, false] rfl rfl (by kernel_rfl) (fun _ _ _ h => h) (Or.inl ⟨by rfl, ?_⟩) ?_ ?_
  rotate_left
  · intro w'
    go_simp
    with_reducible rfl
  rotate_left
  · simp only [Act.put, List.setIfInBounds_toArray, List.set_cons_zero, List.set_cons_succ, i64_w, i32_w]
    rfl
  refine pure_ (i := 4) (N := some 87) (v := ?_) (a' := ?_) #[true, true, true, false, true, false, false, false, false, false, false, false, false, false, false, false, false, false, false, false, false, false, false, false, false, false, false, false, false, false, false, false, false, false, false, false, false, false, false, false, false, false, false, false, false, false, false, false, false, false, false, false, false, false, false, false, false, false, false, false] rfl rfl (by kernel_rfl) (fun _ _ _ h => h) (Or.inl ⟨by rfl, ?_⟩) ?_ ?_
  rotate_left
  · intro w'
    go_simp
    with_reducible rfl
  rotate_left
  · simp only [Act.put, List.setIfInBounds_toArray, List.set_cons_zero, List.set_cons_succ, i64_w, i32_w]
    rfl
  refine pure_ (i := 6) (N := some 89) (v := ?_) (a' := ?_) #[true, true, true, false, true, false, true, false, false, false, false, false, false, false, false, false, false, false, false, false, false, false, false, false, false, false, false, false, false, false, false, false, false, false, false, false, false, false, false, false, false, false, false, false, false, false, false, false, false, false, false, false, false, false, false, false, false, false, false, false] rfl rfl (by kernel_rfl) (fun _ _ _ h => h) (Or.inl ⟨by rfl, ?_⟩) ?_ ?_
  rotate_left
  · intro w'
    go_simp
    with_reducible rfl
  rotate_left
  · simp only [Act.put, List.setIfInBounds_toArray, List.set_cons_zero, List.set_cons_succ, i64_w, i32_w]
    rfl
  refine pure_ (i := 8) (N := some 91) (v := ?_) (a' := ?_) #[true, true, true, false, true, false, true, false, true, false, false, false, false, false, false, false, false, false, false, false, false, false, false, false, false, false, false, false, false, false, false, false, false, false, false, false, false, false, false, false, false, false, false, false, false, false, false, false, false, false, false, false, false, false, false, false, false, false, false, false] rfl rfl (by kernel_rfl) (fun _ _ _ h => h) (Or.inl ⟨by rfl, ?_⟩) ?_ ?_
  rotate_left
  · intro w'
    go_simp
    with_reducible rfl
  rotate_left
  · simp only [Act.put, List.setIfInBounds_toArray, List.set_cons_zero, List.set_cons_succ, i64_w, i32_w]
    rfl
  refine pure_ (i := 11) (N := some 94) (v := ?_) (a' := ?_) #[true, true, true, false, true, false, true, false, true, false, false, true, false, false, false, false, false, false, false, false, false, false, false, false, false, false, false, false, false, false, false, false, false, false, false, false, false, false, false, false, false, false, false, false, false, false, false, false, false, false, false, false, false, false, false, false, false, false, false, false] rfl rfl (by kernel_rfl) (fun _ _ _ h => h) (Or.inl ⟨by rfl, ?_⟩) ?_ ?_
  rotate_left
  · intro w'
    go_simp
    with_reducible rfl
  rotate_left
  · simp only [Act.put, List.setIfInBounds_toArray, List.set_cons_zero, List.set_cons_succ, i64_w, i32_w]
    rfl
  refine pure_ (i := 12) (N := some 95) (v := ?_) (a' := ?_) #[true, true, true, false, true, false, true, false, true, false, false, true, true, false, false, false, false, false, false, false, false, false, false, false, false, false, false, false, false, false, false, false, false, false, false, false, false, false, false, false, false, false, false, false, false, false, false, false, false, false, false, false, false, false, false, false, false, false, false, false] rfl rfl (by kernel_rfl) (fun _ _ _ h => h) (Or.inl ⟨by rfl, ?_⟩) ?_ ?_
  rotate_left
  · intro w'
    go_simp
    with_reducible rfl
  rotate_left
  · simp only [Act.put, List.setIfInBounds_toArray, List.set_cons_zero, List.set_cons_succ, i64_w, i32_w]
    rfl
  refine pure_ (i := 14) (N := some 97) (v := ?_) (a' := ?_) #[true, true, true, false, true, false, true, false, true, false, false, true, true, false, true, false, false, false, false, false, false, false, false, false, false, false, false, false, false, false, false, false, false, false, false, false, false, false, false, false, false, false, false, false, false, false, false, false, false, false, false, false, false, false, false, false, false, false, false, false] rfl rfl (by kernel_rfl) (fun _ _ _ h => h) (Or.inl ⟨by rfl, ?_⟩) ?_ ?_
  rotate_left
  · intro w'
    go_simp
    with_reducible rfl
  rotate_left
  · simp only [Act.put, List.setIfInBounds_toArray, List.set_cons_zero, List.set_cons_succ, i64_w, i32_w]
    rfl
  refine pure_ (i := 17) (N := some 100) (v := ?_) (a' := ?_) #[true, true, true, false, true, false, true, false, true, false, false, true, true, false, true, false, false, true, false, false, false, false, false, false, false, false, false, false, false, false, false, false, false, false, false, false, false, false, false, false, false, false, false, false, false, false, false, false, false, false, false, false, false, false, false, false, false, false, false, false] rfl rfl (by kernel_rfl) (fun _ _ _ h => h) (Or.inl ⟨by rfl, ?_⟩) ?_ ?_
  rotate_left
  · intro w'
    go_simp
    with_reducible rfl
  rotate_left
  · simp only [Act.put, List.setIfInBounds_toArray, List.set_cons_zero, List.set_cons_succ, i64_w, i32_w]
    rfl
  refine pure_ (i := 20) (N := some 103) (v := ?_) (a' := ?_) #[true, true, true, false, true, false, true, false, true, false, false, true, true, false, true, false, false, true, false, false, true, false, false, false, false, false, false, false, false, false, false, false, false, false, false, false, false, false, false, false, false, false, false, false, false, false, false, false, false, false, false, false, false, false, false, false, false, false, false, false] rfl rfl (by kernel_rfl) (fun _ _ _ h => h) (Or.inl ⟨by rfl, ?_⟩) ?_ ?_
  rotate_left
  · intro w'
    go_simp
    with_reducible rfl
  rotate_left
  · simp only [Act.put, List.setIfInBounds_toArray, List.set_cons_zero, List.set_cons_succ, i64_w, i32_w]
    rfl
  refine pure_ (i := 22) (N := some 105) (v := ?_) (a' := ?_) #[true, true, true, false, true, false, true, false, true, false, false, true, true, false, true, false, false, true, false, false, true, false, true, false, false, false, false, false, false, false, false, false, false, false, false, false, false, false, false, false, false, false, false, false, false, false, false, false, false, false, false, false, false, false, false, false, false, false, false, false] rfl rfl (by kernel_rfl) (fun _ _ _ h => h) (Or.inl ⟨by rfl, ?_⟩) ?_ ?_
  rotate_left
  · intro w'
    go_simp
    with_reducible rfl
  rotate_left
  · simp only [Act.put, List.setIfInBounds_toArray, List.set_cons_zero, List.set_cons_succ, i64_w, i32_w]
    rfl
  refine pure_ (i := 25) (N := some 108) (v := ?_) (a' := ?_) #[true, true, true, false, true, false, true, false, true, false, false, true, true, false, true, false, false, true, false, false, true, false, true, false, false, true, false, false, false, false, false, false, false, false, false, false, false, false, false, false, false, false, false, false, false, false, false, false, false, false, false, false, false, false, false, false, false, false, false, false] rfl rfl (by kernel_rfl) (fun _ _ _ h => h) (Or.inl ⟨by rfl, ?_⟩) ?_ ?_
  rotate_left
  · intro w'
    go_simp
    with_reducible rfl
  rotate_left
  · simp only [Act.put, List.setIfInBounds_toArray, List.set_cons_zero, List.set_cons_succ, i64_w, i32_w]
    rfl
  refine pure_ (i := 27) (N := some 110) (v := ?_) (a' := ?_) #[true, true, true, false, true, false, true, false, true, false, false, true, true, false, true, false, false, true, false, false, true, false, true, false, false, true, false, true, false, false, false, false, false, false, false, false, false, false, false, false, false, false, false, false, false, false, false, false, false, false, false, false, false, false, false, false, false, false, false, false] rfl rfl (by kernel_rfl) (fun _ _ _ h => h) (Or.inl ⟨by rfl, ?_⟩) ?_ ?_
  rotate_left
  · intro w'
    go_simp
    with_reducible rfl
  rotate_left
  · simp only [Act.put, List.setIfInBounds_toArray, List.set_cons_zero, List.set_cons_succ, i64_w, i32_w]
    rfl
  refine pure_ (i := 29) (N := some 112) (v := ?_) (a' := ?_) #[true, true, true, false, true, false, true, false, true, false, false, true, true, false, true, false, false, true, false, false, true, false, true, false, false, true, false, true, false, true, false, false, false, false, false, false, false, false, false, false, false, false, false, false, false, false, false, false, false, false, false, false, false, false, false, false, false, false, false, false] rfl rfl (by kernel_rfl) (fun _ _ _ h => h) (Or.inl ⟨by rfl, ?_⟩) ?_ ?_
  rotate_left
  · intro w'
    go_simp
    with_reducible rfl
  rotate_left
  · simp only [Act.put, List.setIfInBounds_toArray, List.set_cons_zero, List.set_cons_succ, i64_w, i32_w]
    rfl
  refine pure_ (i := 30) (N := some 113) (v := ?_) (a' := ?_) #[true, true, true, false, true, false, true, false, true, false, false, true, true, false, true, false, false, true, false, false, true, false, true, false, false, true, false, true, false, true, true, false, false, false, false, false, false, false, false, false, false, false, false, false, false, false, false, false, false, false, false, false, false, false, false, false, false, false, false, false] rfl rfl (by kernel_rfl) (fun _ _ _ h => h) (Or.inl ⟨by rfl, ?_⟩) ?_ ?_
  rotate_left
  · intro w'
    go_simp
    with_reducible rfl
  rotate_left
  · simp only [Act.put, List.setIfInBounds_toArray, List.set_cons_zero, List.set_cons_succ, i64_w, i32_w]
    rfl
  refine pure_ (i := 32) (N := some 115) (v := ?_) (a' := ?_) #[true, true, true, false, true, false, true, false, true, false, false, true, true, false, true, false, false, true, false, false, true, false, true, false, false, true, false, true, false, true, true, false, true, false, false, false, false, false, false, false, false, false, false, false, false, false, false, false, false, false, false, false, false, false, false, false, false, false, false, false] rfl rfl (by kernel_rfl) (fun _ _ _ h => h) (Or.inl ⟨by rfl, ?_⟩) ?_ ?_
  rotate_left
  · intro w'
    go_simp
    with_reducible rfl
  rotate_left
  · simp only [Act.put, List.setIfInBounds_toArray, List.set_cons_zero, List.set_cons_succ, i64_w, i32_w]
    rfl
  refine pure_ (i := 34) (N := some 117) (v := ?_) (a' := ?_) #[true, true, true, false, true, false, true, false, true, false, false, true, true, false, true, false, false, true, false, false, true, false, true, false, false, true, false, true, false, true, true, false, true, false, true, false, false, false, false, false, false, false, false, false, false, false, false, false, false, false, false, false, false, false, false, false, false, false, false, false] rfl rfl (by kernel_rfl) (fun _ _ _ h => h) (Or.inl ⟨by rfl, ?_⟩) ?_ ?_
  rotate_left
  · intro w'
    go_simp
    with_reducible rfl
  rotate_left
  · simp only [Act.put, List.setIfInBounds_toArray, List.set_cons_zero, List.set_cons_succ, i64_w, i32_w]
    rfl
  refine pure_ (i := 37) (N := some 120) (v := ?_) (a' := ?_) #[true, true, true, false, true, false, true, false, true, false, false, true, true, false, true, false, false, true, false, false, true, false, true, false, false, true, false, true, false, true, true, false, true, false, true, false, false, true, false, false, false, false, false, false, false, false, false, false, false, false, false, false, false, false, false, false, false, false, false, false] rfl rfl (by kernel_rfl) (fun _ _ _ h => h) (Or.inl ⟨by rfl, ?_⟩) ?_ ?_
  rotate_left
  · intro w'
    go_simp
    with_reducible rfl
  rotate_left
  · simp only [Act.put, List.setIfInBounds_toArray, List.set_cons_zero, List.set_cons_succ, i64_w, i32_w]
    rfl
  refine pure_ (i := 40) (N := some 123) (v := ?_) (a' := ?_) #[true, true, true, false, true, false, true, false, true, false, false, true, true, false, true, false, false, true, false, false, true, false, true, false, false, true, false, true, false, true, true, false, true, false, true, false, false, true, false, false, true, false, false, false, false, false, false, false, false, false, false, false, false, false, false, false, false, false, false, false] rfl rfl (by kernel_rfl) (fun _ _ _ h => h) (Or.inl ⟨by rfl, ?_⟩) ?_ ?_
  rotate_left
  · intro w'
    go_simp
    with_reducible rfl
  rotate_left
  · simp only [Act.put, List.setIfInBounds_toArray, List.set_cons_zero, List.set_cons_succ, i64_w, i32_w]
    rfl
  refine pure_ (i := 42) (N := some 125) (v := ?_) (a' := ?_) #[true, true, true, false, true, false, true, false, true, false, false, true, true, false, true, false, false, true, false, false, true, false, true, false, false, true, false, true, false, true, true, false, true, false, true, false, false, true, false, false, true, false, true, false, false, false, false, false, false, false, false, false, false, false, false, false, false, false, false, false] rfl rfl (by kernel_rfl) (fun _ _ _ h => h) (Or.inl ⟨by rfl, ?_⟩) ?_ ?_
  rotate_left
  · intro w'
    go_simp
    with_reducible rfl
  rotate_left
  · simp only [Act.put, List.setIfInBounds_toArray, List.set_cons_zero, List.set_cons_succ, i64_w, i32_w]
    rfl
  refine pure_ (i := 45) (N := some 128) (v := ?_) (a' := ?_) #[true, true, true, false, true, false, true, false, true, false, false, true, true, false, true, false, false, true, false, false, true, false, true, false, false, true, false, true, false, true, true, false, true, false, true, false, false, true, false, false, true, false, true, false, false, true, false, false, false, false, false, false, false, false, false, false, false, false, false, false] rfl rfl (by kernel_rfl) (fun _ _ _ h => h) (Or.inl ⟨by rfl, ?_⟩) ?_ ?_
  rotate_left
  · intro w'
    go_simp
    with_reducible rfl
  rotate_left
  · simp only [Act.put, List.setIfInBounds_toArray, List.set_cons_zero, List.set_cons_succ, i64_w, i32_w]
    rfl
  refine pure_ (i := 46) (N := some 129) (v := ?_) (a' := ?_) #[true, true, true, false, true, false, true, false, true, false, false, true, true, false, true, false, false, true, false, false, true, false, true, false, false, true, false, true, false, true, true, false, true, false, true, false, false, true, false, false, true, false, true, false, false, true, true, false, false, false, false, false, false, false, false, false, false, false, false, false] rfl rfl (by kernel_rfl) (fun _ _ _ h => h) (Or.inl ⟨by rfl, ?_⟩) ?_ ?_
  rotate_left
  · intro w'
    go_simp
    with_reducible rfl
  rotate_left
  · simp only [Act.put, List.setIfInBounds_toArray, List.set_cons_zero, List.set_cons_succ, i64_w, i32_w]
    rfl
  refine pure_ (i := 48) (N := some 131) (v := ?_) (a' := ?_) #[true, true, true, false, true, false, true, false, true, false, false, true, true, false, true, false, false, true, false, false, true, false, true, false, false, true, false, true, false, true, true, false, true, false, true, false, false, true, false, false, true, false, true, false, false, true, true, false, true, false, false, false, false, false, false, false, false, false, false, false] rfl rfl (by kernel_rfl) (fun _ _ _ h => h) (Or.inl ⟨by rfl, ?_⟩) ?_ ?_
  rotate_left
  · intro w'
    go_simp
    with_reducible rfl
  rotate_left
  · simp only [Act.put, List.setIfInBounds_toArray, List.set_cons_zero, List.set_cons_succ, i64_w, i32_w]
    rfl
  refine pure_ (i := 50) (N := some 133) (v := ?_) (a' := ?_) #[true, true, true, false, true, false, true, false, true, false, false, true, true, false, true, false, false, true, false, false, true, false, true, false, false, true, false, true, false, true, true, false, true, false, true, false, false, true, false, false, true, false, true, false, false, true, true, false, true, false, true, false, false, false, false, false, false, false, false, false] rfl rfl (by kernel_rfl) (fun _ _ _ h => h) (Or.inl ⟨by rfl, ?_⟩) ?_ ?_
  rotate_left
  · intro w'
    go_simp
    with_reducible rfl
  rotate_left
  · simp only [Act.put, List.setIfInBounds_toArray, List.set_cons_zero, List.set_cons_succ, i64_w, i32_w]
    rfl
  refine pure_ (i := 53) (N := some 136) (v := ?_) (a' := ?_) #[true, true, true, false, true, false, true, false, true, false, false, true, true, false, true, false, false, true, false, false, true, false, true, false, false, true, false, true, false, true, true, false, true, false, true, false, false, true, false, false, true, false, true, false, false, true, true, false, true, false, true, false, false, true, false, false, false, false, false, false] rfl rfl (by kernel_rfl) (fun _ _ _ h => h) (Or.inl ⟨by rfl, ?_⟩) ?_ ?_
  rotate_left
  · intro w'
    go_simp
    with_reducible rfl
  rotate_left
  · simp only [Act.put, List.setIfInBounds_toArray, List.set_cons_zero, List.set_cons_succ, i64_w, i32_w]
    rfl
  refine pure_ (i := 55) (N := some 138) (v := ?_) (a' := ?_) #[true, true, true, false, true, false, true, false, true, false, false, true, true, false, true, false, false, true, false, false, true, false, true, false, false, true, false, true, false, true, true, false, true, false, true, false, false, true, false, false, true, false, true, false, false, true, true, false, true, false, true, false, false, true, false, true, false, false, false, false] rfl rfl (by kernel_rfl) (fun _ _ _ h => h) (Or.inl ⟨by rfl, ?_⟩) ?_ ?_
  rotate_left
  · intro w'
    go_simp
    with_reducible rfl
  rotate_left
  · simp only [Act.put, List.setIfInBounds_toArray, List.set_cons_zero, List.set_cons_succ, i64_w, i32_w]
    rfl
  refine take_ (i := 3) (N := some 86) (v := ?_) (a' := ?_) #[true, true, true, true, true, false, true, false, true, false, false, true, true, false, true, false, false, true, false, false, true, false, true, false, false, true, false, true, false, true, true, false, true, false, true, false, false, true, false, false, true, false, true, false, false, true, true, false, true, false, true, false, false, true, false, true, false, false, false, false] rfl rfl (by kernel_rfl) (fun _ _ _ h => h) (Or.inl ⟨by rfl, ?_⟩) hHeld ?_ ?_
  rotate_left
  · rintro w' ⟨s0, s1, s2, s3, s4, s5, s6, s7, s8, s9, s10, s11, s12⟩
    go_simp
    with_reducible rfl
  rotate_left
  · simp only [Act.put, List.setIfInBounds_toArray, List.set_cons_zero, List.set_cons_succ, i64_w, i32_w]
    rfl
  refine take_ (i := 5) (N := some 88) (v := ?_) (a' := ?_) #[true, true, true, true, true, true, true, false, true, false, false, true, true, false, true, false, false, true, false, false, true, false, true, false, false, true, false, true, false, true, true, false, true, false, true, false, false, true, false, false, true, false, true, false, false, true, true, false, true, false, true, false, false, true, false, true, false, false, false, false] rfl rfl (by kernel_rfl) (fun _ _ _ h => h) (Or.inl ⟨by rfl, ?_⟩) hHeld ?_ ?_
  rotate_left
  · rintro w' ⟨s0, s1, s2, s3, s4, s5, s6, s7, s8, s9, s10, s11, s12⟩
    go_simp
    with_reducible rfl
  rotate_left
  · simp only [Act.put, List.setIfInBounds_toArray, List.set_cons_zero, List.set_cons_succ, i64_w, i32_w]
    rfl
  refine take_ (i := 7) (N := some 90) (v := ?_) (a' := ?_) #[true, true, true, true, true, true, true, true, true, false, false, true, true, false, true, false, false, true, false, false, true, false, true, false, false, true, false, true, false, true, true, false, true, false, true, false, false, true, false, false, true, false, true, false, false, true, true, false, true, false, true, false, false, true, false, true, false, false, false, false] rfl rfl (by kernel_rfl) (fun _ _ _ h => h) (Or.inl ⟨by rfl, ?_⟩) hHeld ?_ ?_
  rotate_left
  · rintro w' ⟨s0, s1, s2, s3, s4, s5, s6, s7, s8, s9, s10, s11, s12⟩
    go_simp
    with_reducible rfl
  rotate_left
  · simp only [Act.put, List.setIfInBounds_toArray, List.set_cons_zero, List.set_cons_succ, i64_w, i32_w]
    rfl
  refine take_ (i := 9) (N := some 92) (v := ?_) (a' := ?_) #[true, true, true, true, true, true, true, true, true, true, false, true, true, false, true, false, false, true, false, false, true, false, true, false, false, true, false, true, false, true, true, false, true, false, true, false, false, true, false, false, true, false, true, false, false, true, true, false, true, false, true, false, false, true, false, true, false, false, false, false] rfl rfl (by kernel_rfl) (fun _ _ _ h => h) (Or.inl ⟨by rfl, ?_⟩) hHeld ?_ ?_
  rotate_left
  · rintro w' ⟨s0, s1, s2, s3, s4, s5, s6, s7, s8, s9, s10, s11, s12⟩
    go_simp
    with_reducible rfl
  rotate_left
  · simp only [Act.put, List.setIfInBounds_toArray, List.set_cons_zero, List.set_cons_succ, i64_w, i32_w]
    rfl
  refine take_ (i := 13) (N := some 96) (v := ?_) (a' := ?_) #[true, true, true, true, true, true, true, true, true, true, false, true, true, true, true, false, false, true, false, false, true, false, true, false, false, true, false, true, false, true, true, false, true, false, true, false, false, true, false, false, true, false, true, false, false, true, true, false, true, false, true, false, false, true, false, true, false, false, false, false] rfl rfl (by kernel_rfl) (fun _ _ _ h => h) (Or.inl ⟨by rfl, ?_⟩) hHeld ?_ ?_
  rotate_left
  · rintro w' ⟨s0, s1, s2, s3, s4, s5, s6, s7, s8, s9, s10, s11, s12⟩
    go_simp
    with_reducible rfl
  rotate_left
  · simp only [Act.put, List.setIfInBounds_toArray, List.set_cons_zero, List.set_cons_succ, i64_w, i32_w]
    rfl
  refine take_ (i := 15) (N := some 98) (v := ?_) (a' := ?_) #[true, true, true, true, true, true, true, true, true, true, false, true, true, true, true, true, false, true, false, false, true, false, true, false, false, true, false, true, false, true, true, false, true, false, true, false, false, true, false, false, true, false, true, false, false, true, true, false, true, false, true, false, false, true, false, true, false, false, false, false] rfl rfl (by kernel_rfl) (fun _ _ _ h => h) (Or.inl ⟨by rfl, ?_⟩) hHeld ?_ ?_
  rotate_left
  · rintro w' ⟨s0, s1, s2, s3, s4, s5, s6, s7, s8, s9, s10, s11, s12⟩
    go_simp
    with_reducible rfl
  rotate_left
  · simp only [Act.put, List.setIfInBounds_toArray, List.set_cons_zero, List.set_cons_succ, i64_w, i32_w]
    rfl
  refine pure_ (i := 16) (N := some 99) (v := ?_) (a' := ?_) #[true, true, true, true, true, true, true, true, true, true, false, true, true, true, true, true, true, true, false, false, true, false, true, false, false, true, false, true, false, true, true, false, true, false, true, false, false, true, false, false, true, false, true, false, false, true, true, false, true, false, true, false, false, true, false, true, false, false, false, false] rfl rfl (by kernel_rfl) (fun _ _ _ h => h) (Or.inl ⟨by rfl, ?_⟩) ?_ ?_
  rotate_left
  · intro w'
    go_simp
    with_reducible rfl
  rotate_left
  · simp only [Act.put, List.setIfInBounds_toArray, List.set_cons_zero, List.set_cons_succ, i64_w, i32_w]
    rfl
  refine take_ (i := 18) (N := some 101) (v := ?_) (a' := ?_) #[true, true, true, true, true, true, true, true, true, true, false, true, true, true, true, true, true, true, true, false, true, false, true, false, false, true, false, true, false, true, true, false, true, false, true, false, false, true, false, false, true, false, true, false, false, true, true, false, true, false, true, false, false, true, false, true, false, false, false, false] rfl rfl (by kernel_rfl) (fun _ _ _ h => h) (Or.inl ⟨by rfl, ?_⟩) hHeld ?_ ?_
  rotate_left
  · rintro w' ⟨s0, s1, s2, s3, s4, s5, s6, s7, s8, s9, s10, s11, s12⟩
    go_simp
    with_reducible rfl
  rotate_left
  · simp only [Act.put, List.setIfInBounds_toArray, List.set_cons_zero, List.set_cons_succ, i64_w, i32_w]
    rfl
  refine pure_ (i := 19) (N := some 102) (v := ?_) (a' := ?_) #[true, true, true, true, true, true, true, true, true, true, false, true, true, true, true, true, true, true, true, true, true, false, true, false, false, true, false, true, false, true, true, false, true, false, true, false, false, true, false, false, true, false, true, false, false, true, true, false, true, false, true, false, false, true, false, true, false, false, false, false] rfl rfl (by kernel_rfl) (fun _ _ _ h => h) (Or.inl ⟨by rfl, ?_⟩) ?_ ?_
  rotate_left
  · intro w'
    go_simp
    with_reducible rfl
  rotate_left
  · simp only [Act.put, List.setIfInBounds_toArray, List.set_cons_zero, List.set_cons_succ, i64_w, i32_w]
    rfl
  refine take_ (i := 21) (N := some 104) (v := ?_) (a' := ?_) #[true, true, true, true, true, true, true, true, true, true, false, true, true, true, true, true, true, true, true, true, true, true, true, false, false, true, false, true, false, true, true, false, true, false, true, false, false, true, false, false, true, false, true, false, false, true, true, false, true, false, true, false, false, true, false, true, false, false, false, false] rfl rfl (by kernel_rfl) (fun _ _ _ h => h) (Or.inl ⟨by rfl, ?_⟩) hHeld ?_ ?_
  rotate_left
  · rintro w' ⟨s0, s1, s2, s3, s4, s5, s6, s7, s8, s9, s10, s11, s12⟩
    go_simp
    with_reducible rfl
  rotate_left
  · simp only [Act.put, List.setIfInBounds_toArray, List.set_cons_zero, List.set_cons_succ, i64_w, i32_w]
    rfl
  refine take_ (i := 23) (N := some 106) (v := ?_) (a' := ?_) #[true, true, true, true, true, true, true, true, true, true, false, true, true, true, true, true, true, true, true, true, true, true, true, true, false, true, false, true, false, true, true, false, true, false, true, false, false, true, false, false, true, false, true, false, false, true, true, false, true, false, true, false, false, true, false, true, false, false, false, false] rfl rfl (by kernel_rfl) (fun _ _ _ h => h) (Or.inl ⟨by rfl, ?_⟩) hHeld ?_ ?_
  rotate_left
  · rintro w' ⟨s0, s1, s2, s3, s4, s5, s6, s7, s8, s9, s10, s11, s12⟩
    go_simp
    with_reducible rfl
  rotate_left
  · simp only [Act.put, List.setIfInBounds_toArray, List.set_cons_zero, List.set_cons_succ, i64_w, i32_w]
    rfl
  refine pure_ (i := 24) (N := some 107) (v := ?_) (a' := ?_) #[true, true, true, true, true, true, true, true, true, true, false, true, true, true, true, true, true, true, true, true, true, true, true, true, true, true, false, true, false, true, true, false, true, false, true, false, false, true, false, false, true, false, true, false, false, true, true, false, true, false, true, false, false, true, false, true, false, false, false, false] rfl rfl (by kernel_rfl) (fun _ _ _ h => h) (Or.inl ⟨by rfl, ?_⟩) ?_ ?_
  rotate_left
  · intro w'
    go_simp
    with_reducible rfl
  rotate_left
  · simp only [Act.put, List.setIfInBounds_toArray, List.set_cons_zero, List.set_cons_succ, i64_w, i32_w]
    rfl
  refine take_ (i := 26) (N := some 109) (v := ?_) (a' := ?_) #[true, true, true, true, true, true, true, true, true, true, false, true, true, true, true, true, true, true, true, true, true, true, true, true, true, true, true, true, false, true, true, false, true, false, true, false, false, true, false, false, true, false, true, false, false, true, true, false, true, false, true, false, false, true, false, true, false, false, false, false] rfl rfl (by kernel_rfl) (fun _ _ _ h => h) (Or.inl ⟨by rfl, ?_⟩) hHeld ?_ ?_
  rotate_left
  · rintro w' ⟨s0, s1, s2, s3, s4, s5, s6, s7, s8, s9, s10, s11, s12⟩
    go_simp
    with_reducible rfl
  rotate_left
  · simp only [Act.put, List.setIfInBounds_toArray, List.set_cons_zero, List.set_cons_succ, i64_w, i32_w]
    rfl
  refine take_ (i := 31) (N := some 114) (v := ?_) (a' := ?_) #[true, true, true, true, true, true, true, true, true, true, false, true, true, true, true, true, true, true, true, true, true, true, true, true, true, true, true, true, false, true, true, true, true, false, true, false, false, true, false, false, true, false, true, false, false, true, true, false, true, false, true, false, false, true, false, true, false, false, false, false] rfl rfl (by kernel_rfl) (fun _ _ _ h => h) (Or.inl ⟨by rfl, ?_⟩) hHeld ?_ ?_
  rotate_left
  · rintro w' ⟨s0, s1, s2, s3, s4, s5, s6, s7, s8, s9, s10, s11, s12⟩
    go_simp
    with_reducible rfl
  rotate_left
  · simp only [Act.put, List.setIfInBounds_toArray, List.set_cons_zero, List.set_cons_succ, i64_w, i32_w]
    rfl
  refine take_ (i := 33) (N := some 116) (v := ?_) (a' := ?_) #[true, true, true, true, true, true, true, true, true, true, false, true, true, true, true, true, true, true, true, true, true, true, true, true, true, true, true, true, false, true, true, true, true, true, true, false, false, true, false, false, true, false, true, false, false, true, true, false, true, false, true, false, false, true, false, true, false, false, false, false] rfl rfl (by kernel_rfl) (fun _ _ _ h => h) (Or.inl ⟨by rfl, ?_⟩) hHeld ?_ ?_
  rotate_left
  · rintro w' ⟨s0, s1, s2, s3, s4, s5, s6, s7, s8, s9, s10, s11, s12⟩
    go_simp
    with_reducible rfl
  rotate_left
  · simp only [Act.put, List.setIfInBounds_toArray, List.set_cons_zero, List.set_cons_succ, i64_w, i32_w]
    rfl
  refine take_ (i := 35) (N := some 118) (v := ?_) (a' := ?_) #[true, true, true, true, true, true, true, true, true, true, false, true, true, true, true, true, true, true, true, true, true, true, true, true, true, true, true, true, false, true, true, true, true, true, true, true, false, true, false, false, true, false, true, false, false, true, true, false, true, false, true, false, false, true, false, true, false, false, false, false] rfl rfl (by kernel_rfl) (fun _ _ _ h => h) (Or.inl ⟨by rfl, ?_⟩) hHeld ?_ ?_
  rotate_left
  · rintro w' ⟨s0, s1, s2, s3, s4, s5, s6, s7, s8, s9, s10, s11, s12⟩
    go_simp
    with_reducible rfl
  rotate_left
  · simp only [Act.put, List.setIfInBounds_toArray, List.set_cons_zero, List.set_cons_succ, i64_w, i32_w]
    rfl
  refine pure_ (i := 36) (N := some 119) (v := ?_) (a' := ?_) #[true, true, true, true, true, true, true, true, true, true, false, true, true, true, true, true, true, true, true, true, true, true, true, true, true, true, true, true, false, true, true, true, true, true, true, true, true, true, false, false, true, false, true, false, false, true, true, false, true, false, true, false, false, true, false, true, false, false, false, false] rfl rfl (by kernel_rfl) (fun _ _ _ h => h) (Or.inl ⟨by rfl, ?_⟩) ?_ ?_
  rotate_left
  · intro w'
    go_simp
    with_reducible rfl
  rotate_left
  · simp only [Act.put, List.setIfInBounds_toArray, List.set_cons_zero, List.set_cons_succ, i64_w, i32_w]
    rfl
  refine take_ (i := 38) (N := some 121) (v := ?_) (a' := ?_) #[true, true, true, true, true, true, true, true, true, true, false, true, true, true, true, true, true, true, true, true, true, true, true, true, true, true, true, true, false, true, true, true, true, true, true, true, true, true, true, false, true, false, true, false, false, true, true, false, true, false, true, false, false, true, false, true, false, false, false, false] rfl rfl (by kernel_rfl) (fun _ _ _ h => h) (Or.inl ⟨by rfl, ?_⟩) hHeld ?_ ?_
  rotate_left
  · rintro w' ⟨s0, s1, s2, s3, s4, s5, s6, s7, s8, s9, s10, s11, s12⟩
    go_simp
    with_reducible rfl
  rotate_left
  · simp only [Act.put, List.setIfInBounds_toArray, List.set_cons_zero, List.set_cons_succ, i64_w, i32_w]
    rfl
  refine pure_ (i := 39) (N := some 122) (v := ?_) (a' := ?_) #[true, true, true, true, true, true, true, true, true, true, false, true, true, true, true, true, true, true, true, true, true, true, true, true, true, true, true, true, false, true, true, true, true, true, true, true, true, true, true, true, true, false, true, false, false, true, true, false, true, false, true, false, false, true, false, true, false, false, false, false] rfl rfl (by kernel_rfl) (fun _ _ _ h => h) (Or.inl ⟨by rfl, ?_⟩) ?_ ?_
  rotate_left
  · intro w'
    go_simp
    with_reducible rfl
  rotate_left
  · simp only [Act.put, List.setIfInBounds_toArray, List.set_cons_zero, List.set_cons_succ, i64_w, i32_w]
    rfl
  refine take_ (i := 41) (N := some 124) (v := ?_) (a' := ?_) #[true, true, true, true, true, true, true, true, true, true, false, true, true, true, true, true, true, true, true, true, true, true, true, true, true, true, true, true, false, true, true, true, true, true, true, true, true, true, true, true, true, true, true, false, false, true, true, false, true, false, true, false, false, true, false, true, false, false, false, false] rfl rfl (by kernel_rfl) (fun _ _ _ h => h) (Or.inl ⟨by rfl, ?_⟩) hHeld ?_ ?_
  rotate_left
  · rintro w' ⟨s0, s1, s2, s3, s4, s5, s6, s7, s8, s9, s10, s11, s12⟩
    go_simp
    with_reducible rfl
  rotate_left
  · simp only [Act.put, List.setIfInBounds_toArray, List.set_cons_zero, List.set_cons_succ, i64_w, i32_w]
    rfl
  refine take_ (i := 43) (N := some 126) (v := ?_) (a' := ?_) #[true, true, true, true, true, true, true, true, true, true, false, true, true, true, true, true, true, true, true, true, true, true, true, true, true, true, true, true, false, true, true, true, true, true, true, true, true, true, true, true, true, true, true, true, false, true, true, false, true, false, true, false, false, true, false, true, false, false, false, false] rfl rfl (by kernel_rfl) (fun _ _ _ h => h) (Or.inl ⟨by rfl, ?_⟩) hHeld ?_ ?_
  rotate_left
  · rintro w' ⟨s0, s1, s2, s3, s4, s5, s6, s7, s8, s9, s10, s11, s12⟩
    go_simp
    with_reducible rfl
  rotate_left
  · simp only [Act.put, List.setIfInBounds_toArray, List.set_cons_zero, List.set_cons_succ, i64_w, i32_w]
    rfl
  refine take_ (i := 47) (N := some 130) (v := ?_) (a' := ?_) #[true, true, true, true, true, true, true, true, true, true, false, true, true, true, true, true, true, true, true, true, true, true, true, true, true, true, true, true, false, true, true, true, true, true, true, true, true, true, true, true, true, true, true, true, false, true, true, true, true, false, true, false, false, true, false, true, false, false, false, false] rfl rfl (by kernel_rfl) (fun _ _ _ h => h) (Or.inl ⟨by rfl, ?_⟩) hHeld ?_ ?_
  rotate_left
  · rintro w' ⟨s0, s1, s2, s3, s4, s5, s6, s7, s8, s9, s10, s11, s12⟩
    go_simp
    with_reducible rfl
  rotate_left
  · simp only [Act.put, List.setIfInBounds_toArray, List.set_cons_zero, List.set_cons_succ, i64_w, i32_w]
    rfl
  refine take_ (i := 49) (N := some 132) (v := ?_) (a' := ?_) #[true, true, true, true, true, true, true, true, true, true, false, true, true, true, true, true, true, true, true, true, true, true, true, true, true, true, true, true, false, true, true, true, true, true, true, true, true, true, true, true, true, true, true, true, false, true, true, true, true, true, true, false, false, true, false, true, false, false, false, false] rfl rfl (by kernel_rfl) (fun _ _ _ h => h) (Or.inl ⟨by rfl, ?_⟩) hHeld ?_ ?_
  rotate_left
  · rintro w' ⟨s0, s1, s2, s3, s4, s5, s6, s7, s8, s9, s10, s11, s12⟩
    go_simp
    with_reducible rfl
  rotate_left
  · simp only [Act.put, List.setIfInBounds_toArray, List.set_cons_zero, List.set_cons_succ, i64_w, i32_w]
    rfl
  refine take_ (i := 51) (N := some 134) (v := ?_) (a' := ?_) #[true, true, true, true, true, true, true, true, true, true, false, true, true, true, true, true, true, true, true, true, true, true, true, true, true, true, true, true, false, true, true, true, true, true, true, true, true, true, true, true, true, true, true, true, false, true, true, true, true, true, true, true, false, true, false, true, false, false, false, false] rfl rfl (by kernel_rfl) (fun _ _ _ h => h) (Or.inl ⟨by rfl, ?_⟩) hHeld ?_ ?_
  rotate_left
  · rintro w' ⟨s0, s1, s2, s3, s4, s5, s6, s7, s8, s9, s10, s11, s12⟩
    go_simp
    with_reducible rfl
  rotate_left
  · simp only [Act.put, List.setIfInBounds_toArray, List.set_cons_zero, List.set_cons_succ, i64_w, i32_w]
    rfl
  refine pure_ (i := 52) (N := some 135) (v := ?_) (a' := ?_) #[true, true, true, true, true, true, true, true, true, true, false, true, true, true, true, true, true, true, true, true, true, true, true, true, true, true, true, true, false, true, true, true, true, true, true, true, true, true, true, true, true, true, true, true, false, true, true, true, true, true, true, true, true, true, false, true, false, false, false, false] rfl rfl (by kernel_rfl) (fun _ _ _ h => h) (Or.inl ⟨by rfl, ?_⟩) ?_ ?_
  rotate_left
  · intro w'
    go_simp
    with_reducible rfl
  rotate_left
  · simp only [Act.put, List.setIfInBounds_toArray, List.set_cons_zero, List.set_cons_succ, i64_w, i32_w]
    rfl
  refine take_ (i := 54) (N := some 137) (v := ?_) (a' := ?_) #[true, true, true, true, true, true, true, true, true, true, false, true, true, true, true, true, true, true, true, true, true, true, true, true, true, true, true, true, false, true, true, true, true, true, true, true, true, true, true, true, true, true, true, true, false, true, true, true, true, true, true, true, true, true, true, true, false, false, false, false] rfl rfl (by kernel_rfl) (fun _ _ _ h => h) (Or.inl ⟨by rfl, ?_⟩) hHeld ?_ ?_
  rotate_left
  · rintro w' ⟨s0, s1, s2, s3, s4, s5, s6, s7, s8, s9, s10, s11, s12⟩
    go_simp
    with_reducible rfl
  rotate_left
  · simp only [Act.put, List.setIfInBounds_toArray, List.set_cons_zero, List.set_cons_succ, i64_w, i32_w]
    rfl
  refine one_ (i := 10) (N := some 93) #[true, true, true, true, true, true, true, true, true, true, true, true, true, true, true, true, true, true, true, true, true, true, true, true, true, true, true, true, false, true, true, true, true, true, true, true, true, true, true, true, true, true, true, true, false, true, true, true, true, true, true, true, true, true, true, true, false, false, false, false] rfl rfl (by kernel_rfl) (by decide) (fun K hK => ?_)
  have hfF := hHeld.2.2.2.2.2.2.2.2.1
  have hfS := hHeld.2.2.2.2.2.2.2.2.2.1
  refine call_ 59 #[.int .i64 (f.x), .int .i64 (f.y), .int .i64 (f.w), .int .i64 (tp), .int .i64 23, .pointer (some ⟨gf, 0, none⟩), .pointer (some ⟨gs, 0, none⟩)] (by rfl) rfl ?_ ?_
  · first | (go_simp; done) | (go_simp; rfl)
  with_reducible refine (CF23.out gf gs _ _ _ _ _ hfF hfS).mono ?_
  rintro e w7 ⟨rfl, hb⟩
  clear hfF hfS
  refine ⟨_, rfl, ?_⟩
  refine hK.out _ _ ⟨(blk_cell (blk_below hHeld.2.2.2.2.2.2.2.2.1 hb) 3).trans AF3.out, (blk_cell (blk_below hHeld.2.2.2.2.2.2.2.2.1 hb) 4).trans AF4.out, (blk_cell (blk_below hHeld.2.2.2.2.2.2.2.2.1 hb) 5).trans AF5.out, (blk_cell (blk_below hHeld.2.2.2.2.2.2.2.2.1 hb) 6).trans AF6.out, (blk_cell (blk_below hHeld.2.2.2.2.2.2.2.2.2.2.1 hb) 0).trans rfl, (blk_cell (blk_below hHeld.2.2.2.2.2.2.2.2.2.2.1 hb) 1).trans rfl, (blk_cell (blk_below hHeld.2.2.2.2.2.2.2.2.2.2.1 hb) 2).trans rfl, (blk_cell (blk_below hHeld.2.2.2.2.2.2.2.2.2.2.1 hb) 3).trans rfl, (blk_below hHeld.2.2.2.2.2.2.2.2.1 hb), (blk_below hHeld.2.2.2.2.2.2.2.2.2.1 hb), (blk_below hHeld.2.2.2.2.2.2.2.2.2.2.1 hb), (Kd.R_below hHeld.2.2.2.2.2.2.2.2.2.2.2.1 hb), (below_step hHeld.2.2.2.2.2.2.2.2.2.2.2.2 hb)⟩ (fun hHeld => ?_)
  clear hK K
  refine norm_ (a' := ?_) ?_ ?_
  rotate_left
  · show Act.put _ (some 93) _ = _
    simp only [Act.put, List.setIfInBounds_toArray, List.set_cons_zero, List.set_cons_succ, i64_w, i32_w]
    rfl
  refine one_ (i := 28) (N := some 111) #[true, true, true, true, true, true, true, true, true, true, true, true, true, true, true, true, true, true, true, true, true, true, true, true, true, true, true, true, true, true, true, true, true, true, true, true, true, true, true, true, true, true, true, true, false, true, true, true, true, true, true, true, true, true, true, true, false, false, false, false] rfl rfl (by kernel_rfl) (by decide) (fun K hK => ?_)
  have hfF := hHeld.2.2.2.2.2.2.2.2.1
  have hfS := hHeld.2.2.2.2.2.2.2.2.2.1
  refine call_ 59 #[.int .i64 (wrap64 (wrap64 (f.x + f.w) - rt)), .int .i64 (wrap64 (f.y + tp)), .int .i64 (rt), .int .i64 (wrap64 (wrap64 (f.h - tp) - bt)), .int .i64 24, .pointer (some ⟨gf, 0, none⟩), .pointer (some ⟨gs, 0, none⟩)] (by rfl) rfl ?_ ?_
  · first | (go_simp; done) | (go_simp; rfl)
  with_reducible refine (CF24.out gf gs _ _ _ _ _ hfF hfS).mono ?_
  rintro e w7 ⟨rfl, hb⟩
  clear hfF hfS
  refine ⟨_, rfl, ?_⟩
  refine hK.out _ _ ⟨(blk_cell (blk_below hHeld.2.2.2.2.2.2.2.2.1 hb) 3).trans AF3.out, (blk_cell (blk_below hHeld.2.2.2.2.2.2.2.2.1 hb) 4).trans AF4.out, (blk_cell (blk_below hHeld.2.2.2.2.2.2.2.2.1 hb) 5).trans AF5.out, (blk_cell (blk_below hHeld.2.2.2.2.2.2.2.2.1 hb) 6).trans AF6.out, (blk_cell (blk_below hHeld.2.2.2.2.2.2.2.2.2.2.1 hb) 0).trans rfl, (blk_cell (blk_below hHeld.2.2.2.2.2.2.2.2.2.2.1 hb) 1).trans rfl, (blk_cell (blk_below hHeld.2.2.2.2.2.2.2.2.2.2.1 hb) 2).trans rfl, (blk_cell (blk_below hHeld.2.2.2.2.2.2.2.2.2.2.1 hb) 3).trans rfl, (blk_below hHeld.2.2.2.2.2.2.2.2.1 hb), (blk_below hHeld.2.2.2.2.2.2.2.2.2.1 hb), (blk_below hHeld.2.2.2.2.2.2.2.2.2.2.1 hb), (Kd.R_below hHeld.2.2.2.2.2.2.2.2.2.2.2.1 hb), (below_step hHeld.2.2.2.2.2.2.2.2.2.2.2.2 hb)⟩ (fun hHeld => ?_)
  clear hK K
  refine norm_ (a' := ?_) ?_ ?_
  rotate_left
  · show Act.put _ (some 111) _ = _
    simp only [Act.put, List.setIfInBounds_toArray, List.set_cons_zero, List.set_cons_succ, i64_w, i32_w]
    rfl
  refine one_ (i := 44) (N := some 127) #[true, true, true, true, true, true, true, true, true, true, true, true, true, true, true, true, true, true, true, true, true, true, true, true, true, true, true, true, true, true, true, true, true, true, true, true, true, true, true, true, true, true, true, true, true, true, true, true, true, true, true, true, true, true, true, true, false, false, false, false] rfl rfl (by kernel_rfl) (by decide) (fun K hK => ?_)
  have hfF := hHeld.2.2.2.2.2.2.2.2.1
  have hfS := hHeld.2.2.2.2.2.2.2.2.2.1
  refine call_ 59 #[.int .i64 (f.x), .int .i64 (wrap64 (wrap64 (f.y + f.h) - bt)), .int .i64 (f.w), .int .i64 (bt), .int .i64 25, .pointer (some ⟨gf, 0, none⟩), .pointer (some ⟨gs, 0, none⟩)] (by rfl) rfl ?_ ?_
  · first | (go_simp; done) | (go_simp; rfl)
  with_reducible refine (CF25.out gf gs _ _ _ _ _ hfF hfS).mono ?_
  rintro e w7 ⟨rfl, hb⟩
  clear hfF hfS
  refine ⟨_, rfl, ?_⟩
  refine hK.out _ _ ⟨(blk_cell (blk_below hHeld.2.2.2.2.2.2.2.2.1 hb) 3).trans AF3.out, (blk_cell (blk_below hHeld.2.2.2.2.2.2.2.2.1 hb) 4).trans AF4.out, (blk_cell (blk_below hHeld.2.2.2.2.2.2.2.2.1 hb) 5).trans AF5.out, (blk_cell (blk_below hHeld.2.2.2.2.2.2.2.2.1 hb) 6).trans AF6.out, (blk_cell (blk_below hHeld.2.2.2.2.2.2.2.2.2.2.1 hb) 0).trans rfl, (blk_cell (blk_below hHeld.2.2.2.2.2.2.2.2.2.2.1 hb) 1).trans rfl, (blk_cell (blk_below hHeld.2.2.2.2.2.2.2.2.2.2.1 hb) 2).trans rfl, (blk_cell (blk_below hHeld.2.2.2.2.2.2.2.2.2.2.1 hb) 3).trans rfl, (blk_below hHeld.2.2.2.2.2.2.2.2.1 hb), (blk_below hHeld.2.2.2.2.2.2.2.2.2.1 hb), (blk_below hHeld.2.2.2.2.2.2.2.2.2.2.1 hb), (Kd.R_below hHeld.2.2.2.2.2.2.2.2.2.2.2.1 hb), (below_step hHeld.2.2.2.2.2.2.2.2.2.2.2.2 hb)⟩ (fun hHeld => ?_)
  clear hK K
  refine norm_ (a' := ?_) ?_ ?_
  rotate_left
  · show Act.put _ (some 127) _ = _
    simp only [Act.put, List.setIfInBounds_toArray, List.set_cons_zero, List.set_cons_succ, i64_w, i32_w]
    rfl
  refine one_ (i := 56) (N := some 139) #[true, true, true, true, true, true, true, true, true, true, true, true, true, true, true, true, true, true, true, true, true, true, true, true, true, true, true, true, true, true, true, true, true, true, true, true, true, true, true, true, true, true, true, true, true, true, true, true, true, true, true, true, true, true, true, true, true, false, false, false] rfl rfl (by kernel_rfl) (by decide) (fun K hK => ?_)
  have hfF := hHeld.2.2.2.2.2.2.2.2.1
  have hfS := hHeld.2.2.2.2.2.2.2.2.2.1
  refine call_ 59 #[.int .i64 (f.x), .int .i64 (wrap64 (f.y + tp)), .int .i64 (lf), .int .i64 (wrap64 (wrap64 (f.h - tp) - bt)), .int .i64 26, .pointer (some ⟨gf, 0, none⟩), .pointer (some ⟨gs, 0, none⟩)] (by rfl) rfl ?_ ?_
  · first | (go_simp; done) | (go_simp; rfl)
  with_reducible refine (CF26.out gf gs _ _ _ _ _ hfF hfS).mono ?_
  rintro e w7 ⟨rfl, hb⟩
  clear hfF hfS
  refine ⟨_, rfl, ?_⟩
  refine hK.out _ _ ⟨(blk_cell (blk_below hHeld.2.2.2.2.2.2.2.2.1 hb) 3).trans AF3.out, (blk_cell (blk_below hHeld.2.2.2.2.2.2.2.2.1 hb) 4).trans AF4.out, (blk_cell (blk_below hHeld.2.2.2.2.2.2.2.2.1 hb) 5).trans AF5.out, (blk_cell (blk_below hHeld.2.2.2.2.2.2.2.2.1 hb) 6).trans AF6.out, (blk_cell (blk_below hHeld.2.2.2.2.2.2.2.2.2.2.1 hb) 0).trans rfl, (blk_cell (blk_below hHeld.2.2.2.2.2.2.2.2.2.2.1 hb) 1).trans rfl, (blk_cell (blk_below hHeld.2.2.2.2.2.2.2.2.2.2.1 hb) 2).trans rfl, (blk_cell (blk_below hHeld.2.2.2.2.2.2.2.2.2.2.1 hb) 3).trans rfl, (blk_below hHeld.2.2.2.2.2.2.2.2.1 hb), (blk_below hHeld.2.2.2.2.2.2.2.2.2.1 hb), (blk_below hHeld.2.2.2.2.2.2.2.2.2.2.1 hb), (Kd.R_below hHeld.2.2.2.2.2.2.2.2.2.2.2.1 hb), (below_step hHeld.2.2.2.2.2.2.2.2.2.2.2.2 hb)⟩ (fun hHeld => ?_)
  clear hK K
  refine norm_ (a' := ?_) ?_ ?_
  rotate_left
  · show Act.put _ (some 139) _ = _
    simp only [Act.put, List.setIfInBounds_toArray, List.set_cons_zero, List.set_cons_succ, i64_w, i32_w]
    rfl
  refine one_ (i := 57) (N := some 140) #[true, true, true, true, true, true, true, true, true, true, true, true, true, true, true, true, true, true, true, true, true, true, true, true, true, true, true, true, true, true, true, true, true, true, true, true, true, true, true, true, true, true, true, true, true, true, true, true, true, true, true, true, true, true, true, true, true, true, false, false] rfl rfl (by kernel_rfl) (by decide) (fun K hK => ?_)
  have HFh := Aside0.mk hHeld.2.2.2.2.2.2.2.2.1
  have HSh := Aside0.mk hHeld.2.2.2.2.2.2.2.2.2.1
  have HGh := Aside0.mk hHeld.2.2.2.2.2.2.2.2.2.2.1
  have HRh := Aside0.mk hHeld.2.2.2.2.2.2.2.2.2.2.2.1
  have HBh := Aside0.mk hHeld.2.2.2.2.2.2.2.2.2.2.2.2
  refine Kd.R_lit_step k45 (w0 := w) w.heap.size 45 ?hg (N := 140) ?hd (xs := ([⟨1, node, f.x, f.y, f.w, tp, q23, 0, ⟨#[]⟩⟩, ⟨1, node, wrap64 (wrap64 (f.x + f.w) - rt), wrap64 (f.y + tp), rt, wrap64 (wrap64 (f.h - tp) - bt), q24, 0, ⟨#[]⟩⟩, ⟨1, node, f.x, wrap64 (wrap64 (f.y + f.h) - bt), f.w, bt, q25, 0, ⟨#[]⟩⟩, ⟨1, node, f.x, wrap64 (f.y + tp), lf, wrap64 (wrap64 (f.h - tp) - bt), q26, 0, ⟨#[]⟩⟩] : List S45)) (inner := [.int .i64 1, .int .i64 node, .int .i64 (f.x), .int .i64 (f.y), .int .i64 (f.w), .int .i64 (tp), .int .i64 q23, .int .i64 0, .string ⟨#[]⟩, .int .i64 1, .int .i64 node, .int .i64 (wrap64 (wrap64 (f.x + f.w) - rt)), .int .i64 (wrap64 (f.y + tp)), .int .i64 (rt), .int .i64 (wrap64 (wrap64 (f.h - tp) - bt)), .int .i64 q24, .int .i64 0, .string ⟨#[]⟩, .int .i64 1, .int .i64 node, .int .i64 (f.x), .int .i64 (wrap64 (wrap64 (f.y + f.h) - bt)), .int .i64 (f.w), .int .i64 (bt), .int .i64 q25, .int .i64 0, .string ⟨#[]⟩, .int .i64 1, .int .i64 node, .int .i64 (f.x), .int .i64 (wrap64 (f.y + tp)), .int .i64 (lf), .int .i64 (wrap64 (wrap64 (f.h - tp) - bt)), .int .i64 q26, .int .i64 0, .string ⟨#[]⟩]) (ok := fun _ => True) (okp := fun _ => True) ?hr ?hp (fun _ hk => hk) trivial HBh.out (below_size HBh.out) (by simp) ?_; (case hd => rfl); (case hg => rfl); (case hr => first | (go_simp; done) | (go_simp; rfl)); (case hp => exact (Reps.c9 (show Kd.M k45 _ _ _ (⟨1, node, f.x, f.y, f.w, tp, q23, 0, ⟨#[]⟩⟩ : S45) [.int .i64 1, .int .i64 node, .int .i64 (f.x), .int .i64 (f.y), .int .i64 (f.w), .int .i64 (tp), .int .i64 q23, .int .i64 0, .string ⟨#[]⟩] from k45_mkM _ _ _ (⟨1, node, f.x, f.y, f.w, tp, q23, 0, ⟨#[]⟩⟩)) (Reps.c9 (show Kd.M k45 _ _ _ (⟨1, node, wrap64 (wrap64 (f.x + f.w) - rt), wrap64 (f.y + tp), rt, wrap64 (wrap64 (f.h - tp) - bt), q24, 0, ⟨#[]⟩⟩ : S45) [.int .i64 1, .int .i64 node, .int .i64 (wrap64 (wrap64 (f.x + f.w) - rt)), .int .i64 (wrap64 (f.y + tp)), .int .i64 (rt), .int .i64 (wrap64 (wrap64 (f.h - tp) - bt)), .int .i64 q24, .int .i64 0, .string ⟨#[]⟩] from k45_mkM _ _ _ (⟨1, node, wrap64 (wrap64 (f.x + f.w) - rt), wrap64 (f.y + tp), rt, wrap64 (wrap64 (f.h - tp) - bt), q24, 0, ⟨#[]⟩⟩)) (Reps.c9 (show Kd.M k45 _ _ _ (⟨1, node, f.x, wrap64 (wrap64 (f.y + f.h) - bt), f.w, bt, q25, 0, ⟨#[]⟩⟩ : S45) [.int .i64 1, .int .i64 node, .int .i64 (f.x), .int .i64 (wrap64 (wrap64 (f.y + f.h) - bt)), .int .i64 (f.w), .int .i64 (bt), .int .i64 q25, .int .i64 0, .string ⟨#[]⟩] from k45_mkM _ _ _ (⟨1, node, f.x, wrap64 (wrap64 (f.y + f.h) - bt), f.w, bt, q25, 0, ⟨#[]⟩⟩)) (Reps.c9 (show Kd.M k45 _ _ _ (⟨1, node, f.x, wrap64 (f.y + tp), lf, wrap64 (wrap64 (f.h - tp) - bt), q26, 0, ⟨#[]⟩⟩ : S45) [.int .i64 1, .int .i64 node, .int .i64 (f.x), .int .i64 (wrap64 (f.y + tp)), .int .i64 (lf), .int .i64 (wrap64 (wrap64 (f.h - tp) - bt)), .int .i64 q26, .int .i64 0, .string ⟨#[]⟩] from k45_mkM _ _ _ (⟨1, node, f.x, wrap64 (f.y + tp), lf, wrap64 (wrap64 (f.h - tp) - bt), q26, 0, ⟨#[]⟩⟩)) (Reps.none _ _))))))
  intro v9 w9 hr9 hb9 hg9 hat9
  obtain ⟨A9, c9, hv9, _, hC9⟩ := Kd.R_reads hr9
  subst hv9
  have HC9 : Aside0 (Kd.C k45 w9 A9 4 [⟨1, node, f.x, f.y, f.w, tp, q23, 0, ⟨#[]⟩⟩, ⟨1, node, wrap64 (wrap64 (f.x + f.w) - rt), wrap64 (f.y + tp), rt, wrap64 (wrap64 (f.h - tp) - bt), q24, 0, ⟨#[]⟩⟩, ⟨1, node, f.x, wrap64 (wrap64 (f.y + f.h) - bt), f.w, bt, q25, 0, ⟨#[]⟩⟩, ⟨1, node, f.x, wrap64 (f.y + tp), lf, wrap64 (wrap64 (f.h - tp) - bt), q26, 0, ⟨#[]⟩⟩]) := ⟨hC9⟩
  have HF9 := Aside0.mk (blk_grown HFh.out hg9 (by simp))
  have HS9 := Aside0.mk (blk_grown HSh.out hg9 (by simp))
  have HG9 := Aside0.mk (blk_grown HGh.out hg9 (by simp))
  have HR9 := Aside0.mk (Kd.R_grown HRh.out hg9 (fun _ _ => by simp))
  have HB9 := Aside0.mk hb9
  clear hr9 hb9 hg9 hat9 hC9 HFh HSh HGh HRh HBh
  refine hK.out _ _ ⟨(blk_cell HF9.out 3).trans AF3.out, (blk_cell HF9.out 4).trans AF4.out, (blk_cell HF9.out 5).trans AF5.out, (blk_cell HF9.out 6).trans AF6.out, (blk_cell HG9.out 0).trans rfl, (blk_cell HG9.out 1).trans rfl, (blk_cell HG9.out 2).trans rfl, (blk_cell HG9.out 3).trans rfl, HF9.out, HS9.out, HG9.out, HR9.out, HB9.out⟩ (fun hHeld => ?_)
  clear hK K
  refine norm_ (a' := ?_) ?_ ?_
  rotate_left
  · show Act.put _ (some 140) _ = _
    simp only [Act.put, List.setIfInBounds_toArray, List.set_cons_zero, List.set_cons_succ, i64_w, i32_w]
    rfl
  refine last_ (i := 58) (N := some 141) #[true, true, true, true, true, true, true, true, true, true, true, true, true, true, true, true, true, true, true, true, true, true, true, true, true, true, true, true, true, true, true, true, true, true, true, true, true, true, true, true, true, true, true, true, true, true, true, true, true, true, true, true, true, true, true, true, true, true, true, false] rfl rfl (by kernel_rfl) (by decide) (fun K hK => ?_)
  refine Kd.R_append_rows_step k45 (w0 := w) w.heap.size (by rfl) (.tmp 83) (.tmp 140) 46 45 (.agg #[(.int .i64 0), (.int .i64 0), (.int .i64 0), (.int .i64 0), (.int .i64 0), (.int .i64 0), (.int .i64 0), (.int .i64 0), (.string ⟨#[]⟩)]) 80 rfl Try.underlying46 info45 rfl (by decide) (by omega) (.slice A10 1 c10) [⟨1, node, f.x, f.y, f.w, f.h, q36, 0, ⟨#[]⟩⟩] [⟨1, node, f.x, f.y, f.w, tp, q23, 0, ⟨#[]⟩⟩, ⟨1, node, wrap64 (wrap64 (f.x + f.w) - rt), wrap64 (f.y + tp), rt, wrap64 (wrap64 (f.h - tp) - bt), q24, 0, ⟨#[]⟩⟩, ⟨1, node, f.x, wrap64 (wrap64 (f.y + f.h) - bt), f.w, bt, q25, 0, ⟨#[]⟩⟩, ⟨1, node, f.x, wrap64 (f.y + tp), lf, wrap64 (wrap64 (f.h - tp) - bt), q26, 0, ⟨#[]⟩⟩] _ _ _ (fun _ => True) (fun _ => False) rfl rfl ?aO ?aR (fun _ _ h => h) (fun _ h => h.elim) ?aF ?aB ?aS ?aL ?_
  (case aO => exact Kd.R_mono HR9.out (fun _ _ => trivial))
  (case aR => exact HC9.out)
  (case aF => exact fun _ _ => trivial)
  (case aB => exact HB9.out)
  (case aS => exact below_size HB9.out)
  (case aL => simp)
  intro v12 w12 hr12 hb12 hg12 hat12
  obtain ⟨A12, c12, hv12, _, _⟩ := Kd.R_reads hr12
  subst hv12
  have HR12 : Aside0 (Kd.R k45 45 w12 w.heap.size (fun _ => True) (.slice A12 5 c12) (([⟨1, node, f.x, f.y, f.w, f.h, q36, 0, ⟨#[]⟩⟩] : List S45) ++ ([⟨1, node, f.x, f.y, f.w, tp, q23, 0, ⟨#[]⟩⟩, ⟨1, node, wrap64 (wrap64 (f.x + f.w) - rt), wrap64 (f.y + tp), rt, wrap64 (wrap64 (f.h - tp) - bt), q24, 0, ⟨#[]⟩⟩, ⟨1, node, f.x, wrap64 (wrap64 (f.y + f.h) - bt), f.w, bt, q25, 0, ⟨#[]⟩⟩, ⟨1, node, f.x, wrap64 (f.y + tp), lf, wrap64 (wrap64 (f.h - tp) - bt), q26, 0, ⟨#[]⟩⟩] : List S45))) := ⟨hr12⟩
  have HB12 := Aside0.mk hb12
  clear hr12 hb12 hg12 hat12
  refine hK.out _ _ ?_
  clear hK K
  refine norm_ (a' := ?_) ?_ ?_
  rotate_left
  · show Act.put _ (some 141) _ = _
    simp only [Act.put, List.setIfInBounds_toArray, List.set_cons_zero, List.set_cons_succ, i64_w, i32_w]
    rfl
  refine pure_ (i := 59) (N := some 11) (v := ?_) (a' := ?_) #[true, true, true, true, true, true, true, true, true, true, true, true, true, true, true, true, true, true, true, true, true, true, true, true, true, true, true, true, true, true, true, true, true, true, true, true, true, true, true, true, true, true, true, true, true, true, true, true, true, true, true, true, true, true, true, true, true, true, true, true] rfl rfl (by kernel_rfl) (fun _ _ _ h => h) (Or.inl ⟨by rfl, ?_⟩) ?_ ?_
  rotate_left
  · intro w'
    go_simp
    with_reducible rfl
  rotate_left
  · simp only [Act.put, List.setIfInBounds_toArray, List.set_cons_zero, List.set_cons_succ, i64_w, i32_w]
    rfl
  refine done_ (by kernel_rfl) ?_
  go_wp2_with (go_at_call 60; have hfc := fill_call (L := (([⟨1, node, f.x, f.y, f.w, f.h, q36, 0, ⟨#[]⟩⟩] : List S45) ++ ([⟨1, node, f.x, f.y, f.w, tp, q23, 0, ⟨#[]⟩⟩, ⟨1, node, wrap64 (wrap64 (f.x + f.w) - rt), wrap64 (f.y + tp), rt, wrap64 (wrap64 (f.h - tp) - bt), q24, 0, ⟨#[]⟩⟩, ⟨1, node, f.x, wrap64 (wrap64 (f.y + f.h) - bt), f.w, bt, q25, 0, ⟨#[]⟩⟩, ⟨1, node, f.x, wrap64 (f.y + tp), lf, wrap64 (wrap64 (f.h - tp) - bt), q26, 0, ⟨#[]⟩⟩] : List S45))) (n := 5) rfl (by simp) HR12.out; (with_reducible refine hfc.mono ?_); clear hfc; rintro e w15 ⟨v15, rfl, hr_, hb⟩; have HR15 := Aside0.mk hr_; have HBx := Aside0.mk HB12.out.size; have HB15 := Aside0.mk (below_step HB12.out hb); clear hb hr_)
  go_ret
  exact ⟨_, rfl, by rw [← HRES.out]; exact Kd.R_lower HR15.out HBx.out, HB15.out⟩
theorem paint_Frag.calls (f : Fr) (kind : Int) (xs : List Int) (hl : xs.length = 118) (w : World) :
    Calls Try.prog 24 #[.agg (frc f), .int .i64 kind, sty xs] w fun e w' => ∃ v0, e = .returned v0 ∧ Kd.R k45 45 w' w.heap.size (fun _ => True) v0 (cmdsOf f kind xs) ∧ Below w.heap.size w w' := by
  unfold cmdsOf
  by_cases hv : xs.getD 67 0 = 1
  · rw [if_pos hv]
    exact paint_Frag.hidden f kind xs hl w hv
  · rw [if_neg hv]
    by_cases hk : kind = 4
    · rw [if_pos hk]
      by_cases ht : f.text.toList = []
      · rw [if_pos ht]
        exact paint_Frag.empty f kind xs hl w hv hk ht
      · rw [if_neg ht]
        exact paint_Frag.text f kind xs hl w hv hk ht
    · rw [if_neg hk]
      by_cases h8 : kind = 8
      · exact paint_Frag.row f kind xs hl w hv hk h8
      · exact paint_Frag.box f kind xs hl w hv hk h8
end Go.Proofs.Ytaejmgdpnnhpmaa.QSty
