/- RasterFlat: Flat answers what the document's reference answers, of every list of commands. -/
import Derived.Test.YtaejmgdpnnhpmaaQRasterFlatx6
import Derived.Test.YtaejmgdpnnhpmaaOpenCmds
namespace Go.Proofs.Ytaejmgdpnnhpmaa.Pure
open Go.RowKit Go.Proofs.Ytaejmgdpnnhpmaa.QRasterFlat Go.Proofs.YtaejmgdpnnhpmaaW.PrintWords Go.Proofs.YtaejmgdpnnhpmaaW.PrintLast Go.Proofs.YtaejmgdpnnhpmaaW.PrintMore

def cut (n : Int) : Int := if n > 16777216 then 16777216 else (if n < (-16777216) then (-16777216) else n)
theorem cut_le (n : Int) : -16777216 ≤ cut n ∧ cut n ≤ 16777216 := by
  unfold cut
  repeat' split
  all_goals omega
theorem cut_a (n : Int) : fix_Cut.f n = some (cut n) := by
  unfold fix_Cut.f cut mn mx
  congr 1
  repeat' split
  all_goals omega
theorem cut_b (n : Int) : clerestoryref3_Cut.f n = some (cut n) := by
  unfold clerestoryref3_Cut.f cut
  repeat' split
  all_goals rfl

/-- What two rectangles have in common. -/
def meetT (a b : S70) : S70 :=
  if (wrap64 ((mn (wrap64 (a.f0 + a.f2)) (wrap64 (b.f0 + b.f2))) - (mx a.f0 b.f0))) ≤ 0 then ⟨0, 0, 0, 0⟩ else (if (wrap64 ((mn (wrap64 (a.f1 + a.f3)) (wrap64 (b.f1 + b.f3))) - (mx a.f1 b.f1))) ≤ 0 then ⟨0, 0, 0, 0⟩ else ⟨mx a.f0 b.f0, mx a.f1 b.f1, wrap64 ((mn (wrap64 (a.f0 + a.f2)) (wrap64 (b.f0 + b.f2))) - (mx a.f0 b.f0)), wrap64 ((mn (wrap64 (a.f1 + a.f3)) (wrap64 (b.f1 + b.f3))) - (mx a.f1 b.f1))⟩)
theorem meet_a (a b : S70) : raster_meet.f a.f0 a.f1 a.f2 a.f3 b.f0 b.f1 b.f2 b.f3 = some ((meetT a b).f0, (meetT a b).f1, (meetT a b).f2, (meetT a b).f3) := by
  unfold raster_meet.f meetT
  repeat' split
  all_goals rfl
theorem meet_b (a b : S70) : clerestoryref3_Meets.f a.f0 a.f1 a.f2 a.f3 b.f0 b.f1 b.f2 b.f3 = some ((meetT a b).f0, (meetT a b).f1, (meetT a b).f2, (meetT a b).f3) := by
  have e : ∀ x : Int, (x < 1) = (x ≤ 0) := fun x => propext (by omega)
  unfold clerestoryref3_Meets.f meetT
  simp only [e]
  repeat' split
  all_goals rfl
/-- A command's rectangle. -/
def rectT (c : S45) : S70 := ⟨cut c.f2, cut c.f3, cut c.f4, cut c.f5⟩
theorem rect_a (c : S45) : raster_rect.f c.f0 c.f1 c.f2 c.f3 c.f4 c.f5 c.f6 c.f7 c.f8 = some ((rectT c).f0, (rectT c).f1, (rectT c).f2, (rectT c).f3) := by
  unfold raster_rect.f rectT
  simp only [cut_a, Option.bind_some]
/-- What stands around, one command further. -/
def step (s : S129) (c : S45) : S129 := if c.f0 = 3 then ⟨meetT s.f0 (rectT c), s.f1⟩ else ⟨s.f0, wrap64 (Int.tdiv (wrap64 (s.f1 * (mn (mx c.f7 0) 1000))) 1000)⟩
def s0 : S129 := ⟨⟨-16777216, -16777216, 33554432, 33554432⟩, 1000⟩
def st (o : List S45) : S129 := o.foldl step s0
/-- What stood around, place by place. -/
def arr (o : List S45) : List S129 := (List.range (o.length + 1)).map fun j => st (o.take j)
theorem arr_len (o : List S45) : (arr o).length = o.length + 1 := by simp [arr]
theorem arr_snoc (o : List S45) (c : S45) : arr (o ++ [c]) = arr o ++ [step (st o) c] := by
  unfold arr
  rw [List.length_append, List.length_singleton, List.range_succ, List.map_append, List.map_singleton]
  congr 1
  · apply List.map_congr_left
    intro j hj
    have : j < o.length + 1 := List.mem_range.1 hj
    rw [List.take_append_of_le_length (by omega)]
  · rw [List.take_of_length_le (by simp)]
    unfold st
    rw [List.foldl_append]
    rfl
theorem arr_drop (o : List S45) (h : 0 < o.length) : (arr o).take o.length = arr o.dropLast := by
  unfold arr
  rw [← List.map_take, List.take_range, List.length_dropLast]
  rw [show min o.length (o.length + 1) = o.length - 1 + 1 from by omega]
  apply List.map_congr_left
  intro j hj
  have : j < o.length - 1 + 1 := List.mem_range.1 hj
  rw [List.dropLast_eq_take, List.take_take]
  rw [show min j (o.length - 1) = j from by omega]
theorem arr_last (o : List S45) : rd_T129 (arr o) (o.length : Int) = st o := by
  unfold rd_T129
  rw [Int.toNat_natCast]
  simp [arr, List.getD_eq_getElem?_getD]
/-- What is drawn of the commands left. -/
def R : List S45 → List S45 → List S72 → (List S72 × Int)
  | [], o, out => if o = [] then (out, 0) else ([], 3)
  | c :: rest, o, out => if c.f0 = 1 ∨ c.f0 = 2 then R rest o (out ++ [⟨c, (st o).f0, (st o).f1⟩]) else if c.f0 = 3 ∨ c.f0 = 4 then R rest (o ++ [c]) out else if c.f0 = 5 then (if o = [] then ([], 3) else R rest o.dropLast out) else ([], 7)
theorem rd_at (l : List S45) (i : Nat) (h : i < l.length) : l.drop i = rd_T45 l (i : Int) :: l.drop (i + 1) := by
  rw [List.drop_eq_getElem_cons h]
  congr 1
  unfold rd_T45
  rw [Int.toNat_natCast]
  simp [List.getD_eq_getElem?_getD, h]
theorem flat_a (l : List S45) (hl : l.length ≤ 60) (d : Nat) : ∀ (k i : Nat) (o : List S45) (out : List S72), i + d = l.length → 2 * d + 1 < k → o.length ≤ i → out.length ≤ i →
    raster_Flat.l0 k (arr o) out l (l.length : Int) (i : Int) = some (R (l.drop i) o out) := by
  induction d with
  | zero =>
    intro k i o out h hk ho hout
    obtain ⟨k, rfl⟩ : ∃ q, k = q + 1 := ⟨k - 1, by omega⟩
    obtain rfl : i = l.length := by omega
    rw [raster_Flat.l0, if_neg (by omega), List.drop_length, arr_len]
    unfold R
    by_cases e : o = []
    · subst e; rfl
    · have : 0 < o.length := List.length_pos_iff.mpr e
      rw [if_pos (by omega), if_neg e]
  | succ d ih =>
    intro k i o out h hk ho hout
    obtain ⟨k, rfl⟩ : ∃ q, k = q + 1 + 1 := ⟨k - 2, by omega⟩
    have hw : wrap64 ((i : Int) + 1) = ((i + 1 : Nat) : Int) := by unfold wrap64; omega
    have hlast : wrap64 (((arr o).length : Int) - 1) = (o.length : Int) := by rw [arr_len]; unfold wrap64; omega
    have hal := arr_len o
    rw [rd_at l i (by omega), raster_Flat.l0, if_pos (by omega), if_pos (by omega), if_pos (by omega), hlast, if_pos (by omega), if_pos (by omega), arr_last]
    generalize rd_T45 l (i : Int) = c
    have hj : ∀ b : Bool, (b = true ↔ c.f0 = 1 ∨ c.f0 = 2) → raster_Flat.j1 (k + 1) (arr o) out l (l.length : Int) (i : Int) c.f0 b c.f0 c.f1 c.f2 c.f3 c.f4 c.f5 c.f6 c.f7 c.f8 (st o).f0.f0 (st o).f0.f1 (st o).f0.f2 (st o).f0.f3 (st o).f1 = some (R (c :: l.drop (i + 1)) o out) := by
      intro b hb
      rw [raster_Flat.j1, hw, hlast]
      by_cases h1 : b = true
      · rw [if_pos h1, if_pos (by omega), R, if_pos (hb.mp h1)]
        exact ih k (i + 1) o _ (by omega) (by omega) (by omega) (by simp; omega)
      · have h2 : ¬ (c.f0 = 1 ∨ c.f0 = 2) := fun e => h1 (hb.mpr e)
        rw [if_neg h1, R, if_neg h2]
        by_cases h3 : c.f0 = 3
        · rw [if_pos h3, rect_a c, if_pos (Or.inl h3)]
          simp only [Option.bind_some]
          rw [meet_a (st o).f0 (rectT c)]
          simp only [Option.bind_some]
          rw [if_pos (by omega)]
          have e := ih k (i + 1) (o ++ [c]) out (by omega) (by omega) (by simp; omega) (by omega)
          rw [arr_snoc] at e
          have es : step (st o) c = ⟨meetT (st o).f0 (rectT c), (st o).f1⟩ := by unfold step; rw [if_pos h3]
          rw [es] at e
          exact e
        · rw [if_neg h3]
          by_cases h4 : c.f0 = 4
          · rw [if_pos h4, if_pos (Or.inr h4)]
            unfold raster_part.f
            simp only [Option.bind_some]
            rw [if_pos (by omega)]
            have e := ih k (i + 1) (o ++ [c]) out (by omega) (by omega) (by simp; omega) (by omega)
            rw [arr_snoc] at e
            have es : step (st o) c = ⟨(st o).f0, wrap64 (Int.tdiv (wrap64 ((st o).f1 * (mn (mx c.f7 0) 1000))) 1000)⟩ := by unfold step; rw [if_neg h3]
            rw [es] at e
            exact e
          · rw [if_neg h4, if_neg (show ¬ (c.f0 = 3 ∨ c.f0 = 4) from fun e => e.elim h3 h4)]
            by_cases h5 : c.f0 = 5
            · rw [if_pos h5, if_pos h5]
              by_cases h6 : o = []
              · subst h6
                rw [if_pos (show (((arr []).length : Nat) : Int) = 1 from rfl), if_pos rfl]
              · have hp : 0 < o.length := List.length_pos_iff.mpr h6
                rw [if_neg h6, if_neg (by omega), if_pos (by omega), if_pos (by omega), Int.toNat_natCast, arr_drop o hp]
                exact ih k (i + 1) o.dropLast out (by omega) (by omega) (by simp; omega) (by omega)
            · rw [if_neg h5, if_neg h5]
    by_cases h1 : c.f0 = 1
    · rw [if_pos h1]
      exact hj _ (by simp [h1])
    · rw [if_neg h1]
      exact hj _ (by simp [h1])
theorem flat_l (l : List S45) (o : List S45) (ho : o.length ≤ 60) (out : List S72) (i : Int) (c : S45) (d : Nat) : ∀ (k p : Nat) (s : S129), p + d = o.length →
    clerestoryref3_Flat.l1 (k + d + 1) o out l (l.length : Int) i o (o.length : Int) (p : Int) c.f0 c.f1 c.f2 c.f3 c.f4 c.f5 c.f6 c.f7 c.f8 s.f0.f0 s.f0.f1 s.f0.f2 s.f0.f3 s.f1 =
      if out.length + 1 < 1172812402961 then clerestoryref3_Flat.l0 k o (out ++ [⟨c, ((o.drop p).foldl step s).f0, ((o.drop p).foldl step s).f1⟩]) l (l.length : Int) (wrap64 (i + 1)) else none := by
  induction d with
  | zero =>
    intro k p s h
    obtain rfl : p = o.length := by omega
    rw [clerestoryref3_Flat.l1, if_neg (by omega), List.drop_length]
    rfl
  | succ d ih =>
    intro k p s h
    have hw : wrap64 ((p : Int) + 1) = ((p + 1 : Nat) : Int) := by unfold wrap64; omega
    rw [rd_at o p (by omega), clerestoryref3_Flat.l1, if_pos (by omega), if_pos (by omega), if_pos (by omega), hw]
    generalize rd_T45 o (p : Int) = x
    rw [List.foldl_cons]
    by_cases h3 : x.f0 = 3
    · rw [if_pos h3]
      simp only [cut_b, Option.bind_some]
      have em := meet_b s.f0 (rectT x)
      simp only [rectT] at em
      rw [em]
      simp only [Option.bind_some]
      have e := ih k (p + 1) (step s x) (by omega)
      have es : step s x = ⟨meetT s.f0 (rectT x), s.f1⟩ := by unfold step; rw [if_pos h3]
      rw [es] at e ⊢
      exact e
    · rw [if_neg h3]
      have e := ih k (p + 1) (step s x) (by omega)
      have es : step s x = ⟨s.f0, wrap64 (Int.tdiv (wrap64 (s.f1 * (mn (mx x.f7 0) 1000))) 1000)⟩ := by unfold step; rw [if_neg h3]
      rw [es] at e ⊢
      exact e
theorem flat_b (l : List S45) (hl : l.length ≤ 60) (d : Nat) : ∀ (k i : Nat) (o : List S45) (out : List S72), i + d = l.length → 70 * d + 1 < k → o.length ≤ i → out.length ≤ i →
    clerestoryref3_Flat.l0 k o out l (l.length : Int) (i : Int) = some (R (l.drop i) o out) := by
  induction d with
  | zero =>
    intro k i o out h hk ho hout
    obtain ⟨k, rfl⟩ : ∃ q, k = q + 1 := ⟨k - 1, by omega⟩
    obtain rfl : i = l.length := by omega
    rw [clerestoryref3_Flat.l0, if_neg (by omega), List.drop_length]
    unfold R
    by_cases e : o = []
    · subst e; rfl
    · have : 0 < o.length := List.length_pos_iff.mpr e
      rw [if_pos (by omega), if_neg e]
  | succ d ih =>
    intro k i o out h hk ho hout
    obtain ⟨k, rfl⟩ : ∃ q, k = q + 1 + 1 + 1 := ⟨k - 3, by omega⟩
    have hw : wrap64 ((i : Int) + 1) = ((i + 1 : Nat) : Int) := by unfold wrap64; omega
    rw [rd_at l i (by omega), clerestoryref3_Flat.l0, if_pos (by omega), if_pos (by omega), if_pos (by omega)]
    generalize rd_T45 l (i : Int) = c
    have h3j : ∀ b : Bool, (b = true ↔ c.f0 = 3 ∨ c.f0 = 4) → ¬ (c.f0 = 1 ∨ c.f0 = 2) → clerestoryref3_Flat.j3 (k + 1) o out l (l.length : Int) (i : Int) c.f0 b c.f0 c.f1 c.f2 c.f3 c.f4 c.f5 c.f6 c.f7 c.f8 = some (R (c :: l.drop (i + 1)) o out) := by
      intro b hb h2
      rw [clerestoryref3_Flat.j3, hw, R, if_neg h2]
      by_cases h1 : b = true
      · rw [if_pos h1, if_pos (hb.mp h1)]
        have ea : api_Cmd.f o = some o := by unfold api_Cmd.f; rw [if_pos (by omega)]
        rw [ea]
        simp only [Option.bind_some]
        rw [if_pos (by simp; omega)]
        exact ih k (i + 1) (o ++ [c]) out (by omega) (by omega) (by simp; omega) (by omega)
      · have h3 : ¬ (c.f0 = 3 ∨ c.f0 = 4) := fun e => h1 (hb.mpr e)
        rw [if_neg h1, if_neg h3]
        by_cases h5 : c.f0 = 5
        · rw [if_pos h5, if_pos h5]
          by_cases h6 : o = []
          · subst h6
            rw [if_pos (show ((([] : List S45).length : Nat) : Int) = 0 from rfl), if_pos rfl]
          · have hp : 0 < o.length := List.length_pos_iff.mpr h6
            have hlast : wrap64 ((o.length : Int) - 1) = ((o.length - 1 : Nat) : Int) := by unfold wrap64; omega
            rw [if_neg h6, if_neg (by omega), hlast, if_pos (by omega), if_pos (by omega), Int.toNat_natCast, ← List.dropLast_eq_take]
            exact ih k (i + 1) o.dropLast out (by omega) (by omega) (by simp; omega) (by omega)
        · rw [if_neg h5, if_neg h5]
    have hj : ∀ b : Bool, (b = true ↔ c.f0 = 1 ∨ c.f0 = 2) → clerestoryref3_Flat.j1 (k + 1 + 1) o out l (l.length : Int) (i : Int) c.f0 b c.f0 c.f1 c.f2 c.f3 c.f4 c.f5 c.f6 c.f7 c.f8 = some (R (c :: l.drop (i + 1)) o out) := by
      intro b hb
      rw [clerestoryref3_Flat.j1]
      by_cases h1 : b = true
      · obtain ⟨q, hq⟩ : ∃ q, k + 1 = q + o.length + 1 := ⟨k - o.length, by omega⟩
        rw [if_pos h1, hq]
        have e := flat_l l o (by omega) out (i : Int) c o.length q 0 s0 (by omega)
        rw [if_pos (by omega), hw, List.drop_zero] at e
        refine Eq.trans e ?_
        rw [R, if_pos (hb.mp h1)]
        exact ih q (i + 1) o _ (by omega) (by omega) (by omega) (by simp; omega)
      · have h2 : ¬ (c.f0 = 1 ∨ c.f0 = 2) := fun e => h1 (hb.mpr e)
        rw [if_neg h1]
        by_cases h3 : c.f0 = 3
        · rw [if_pos h3]
          exact h3j _ (by simp [h3]) h2
        · rw [if_neg h3]
          exact h3j _ (by simp [h3]) h2
    by_cases h1 : c.f0 = 1
    · rw [if_pos h1]
      exact hj _ (by simp [h1])
    · rw [if_neg h1]
      exact hj _ (by simp [h1])
theorem R_len : ∀ (rest o : List S45) (out : List S72), (R rest o out).1.length ≤ out.length + rest.length
  | [], o, out => by unfold R; split <;> simp
  | c :: rest, o, out => by
    unfold R
    repeat' split
    · have := R_len rest o (out ++ [⟨c, (st o).f0, (st o).f1⟩]); simp at this ⊢; omega
    · have := R_len rest (o ++ [c]) out; simp at this ⊢; omega
    · simp
    · have := R_len rest o.dropLast out; simp at this ⊢; omega
    · simp
theorem drawn_yes (n : Nat) : clerestorylaw3_drawn.f (100 + n) = some true := by
  induction n with
  | zero => decide +kernel
  | succ n ih => exact clerestorylaw3_drawn.mono (100 + n) _ ih
theorem RasterFlat (l : List S45) (k : Nat) (hk : 4300 < k) : clerestorylaw3_RasterFlat.f k l = some true := by
  unfold clerestorylaw3_RasterFlat.f
  have hmn : 0 ≤ mn (l.length : Int) 60 ∧ mn (l.length : Int) 60 ≤ (l.length : Int) ∧ mn (l.length : Int) 60 ≤ 60 := by unfold mn; split <;> omega
  rw [if_pos hmn.1, if_pos hmn.2.1]
  have hsz : (l.take (mn (l.length : Int) 60).toNat).length ≤ 60 := by rw [List.length_take]; omega
  generalize l.take (mn (l.length : Int) 60).toNat = t at hsz
  have ha : raster_Flat.f k t = some (R t [] []) := by
    have := flat_a t hsz t.length k 0 [] [] (by omega) (by omega) (by simp) (by simp)
    unfold raster_Flat.f raster_all.f
    simp only [Option.bind_some]
    exact this
  have hb : clerestoryref3_Flat.f k t = some (R t [] []) := flat_b t hsz t.length k 0 [] [] (by omega) (by omega) (by simp) (by simp)
  have hd : clerestorylaw3_drawn.f k = some true := by
    obtain ⟨n, rfl⟩ : ∃ n, k = 100 + n := ⟨k - 100, by omega⟩
    exact drawn_yes n
  simp only [Option.bind_some]
  rw [ha, hb, hd]
  simp only [Option.bind_some]
  have hl := R_len t [] []
  have he : api_LDraw.f (R t [] []).1 (R t [] []).1 = some true := by
    unfold api_LDraw.f
    rw [if_pos (by simp at hl; omega), if_pos rfl]
  rw [he]
  simp
theorem RasterFlat.walk {H : Type} {enc : TypeId × Value → H} {spare : Nat → Bool} {held : Bool} {d : DataW H} {ps : List MemPlace} (a : Option Addr) (len cap : Nat) (W : World) (k0 : DataW.Trod enc Try.prog W 0 spare held 46 (.slice a len cap) d ps) (y0 : len * 80 ≤ 140737488351232) :
    Calls Try.prog 11 #[.slice a len cap] W fun e w' => e = .returned (.bool true) ∧ Below W.heap.size W w' := by
  obtain ⟨fuel, hf⟩ := k0
  obtain ⟨b, rfl, hc, hC⟩ := Open.open_cmds Try.underlying46 Try.underlying45 Try.underlying3 Try.underlying9 rfl (by kernel_rfl) (by kernel_rfl) (by simpa [Value.cells] using hf)
  exact clerestorylaw3_RasterFlat.calls 5000 a cap b true W hC hc (RasterFlat b 5000 (by omega))

end Go.Proofs.Ytaejmgdpnnhpmaa.Pure
