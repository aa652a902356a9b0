/- flex.Mains and the reference's Mains tell the same: the plain law. -/
import Derived.Test.YtaejmgdpnnhpmaaRefDefs
import Derived.Test.YtaejmgdpnnhpmaaGivMains
namespace Go.Proofs.Ytaejmgdpnnhpmaa.QFlex
open Go.RowKit Go.Proofs.YtaejmgdpnnhpmaaW.PrintWords Go.Proofs.YtaejmgdpnnhpmaaW.PrintLast Go.Proofs.YtaejmgdpnnhpmaaW.PrintMore
set_option linter.unusedVariables false
set_option linter.unusedSimpArgs false
def mkS (X : List S91) (Y : List Int) (Z : List Bool) : List S99 := (List.range X.length).map fun (j : Nat) => ⟨rd_T91 X (j : Int), longOf (rd_T91 X (j : Int)), rdOf false Z (j : Int), rd Y (j : Int)⟩
theorem mkS_length (X : List S91) (Y : List Int) (Z : List Bool) : (mkS X Y Z).length = X.length := by simp [mkS]
theorem mkS_rd (X : List S91) (Y : List Int) (Z : List Bool) (j : Nat) (h : j < X.length) : rd_T99 (mkS X Y Z) (j : Int) = ⟨rd_T91 X (j : Int), longOf (rd_T91 X (j : Int)), rdOf false Z (j : Int), rd Y (j : Int)⟩ := by
  rw [rd99 _ j (by rw [mkS_length]; exact h)]
  unfold mkS
  rw [List.getElem_map, List.getElem_range]
theorem rdI_set (l : List Int) (k j : Nat) (v : Int) (h : k < l.length) : rd (l.set k v) (j : Int) = if j = k then v else rd l (j : Int) := by
  unfold rd
  rw [Int.toNat_natCast, List.getD_eq_getElem?_getD, List.getD_eq_getElem?_getD, List.getElem?_set]
  by_cases e : k = j
  · subst e; simp [h]
  · rw [if_neg e, if_neg (fun q => e q.symm)]
theorem rdB_set (l : List Bool) (k j : Nat) (v : Bool) (h : k < l.length) : rdOf false (l.set k v) (j : Int) = if j = k then v else rdOf false l (j : Int) := by
  unfold rdOf
  rw [Int.toNat_natCast, List.getD_eq_getElem?_getD, List.getD_eq_getElem?_getD, List.getElem?_set]
  by_cases e : k = j
  · subst e; simp [h]
  · rw [if_neg e, if_neg (fun q => e q.symm)]
theorem setB_self (l : List Bool) (k : Nat) (h : k < l.length) : l.set k (rdOf false l (k : Int)) = l := by
  unfold rdOf
  rw [Int.toNat_natCast, List.getD_eq_getElem?_getD, List.getElem?_eq_getElem h]
  simp
theorem setI_self (l : List Int) (k : Nat) (h : k < l.length) : l.set k (rd l (k : Int)) = l := by
  unfold rd
  rw [Int.toNat_natCast, List.getD_eq_getElem?_getD, List.getElem?_eq_getElem h]
  simp
theorem mkS_set (X : List S91) (Y : List Int) (Z : List Bool) (k : Nat) (y : Int) (z : Bool) (hk : k < X.length) (hY : Y.length = X.length) (hZ : Z.length = X.length) :
    (mkS X Y Z).set k ⟨rd_T91 X (k : Int), longOf (rd_T91 X (k : Int)), z, y⟩ = mkS X (Y.set k y) (Z.set k z) := by
  apply List.ext_getElem (by rw [List.length_set, mkS_length, mkS_length])
  intro j h1 h2
  have hj : j < X.length := by rw [mkS_length] at h2; exact h2
  rw [List.getElem_set]
  have e := mkS_rd X (Y.set k y) (Z.set k z) j hj
  rw [rd99 _ j h2, rdI_set _ _ _ _ (by omega), rdB_set _ _ _ _ (by omega)] at e
  rw [e]
  by_cases hjk : j = k
  · subst hjk
    simp
  · rw [if_neg (fun q => hjk q.symm), if_neg hjk, if_neg hjk]
    have e2 := mkS_rd X Y Z j hj
    rw [rd99 _ j (by rw [mkS_length]; exact hj)] at e2
    exact e2
theorem isN_length (gr : Bool) (X : List S91) (n k : Nat) : (isN gr X n k).length = n := by
  induction k with
  | zero => simp [isN]
  | succ k ih => unfold isN; split <;> simp [ih]
theorem stN_length (gr : Bool) (X : List S91) (n k : Nat) : (stN gr X n k).length = n := by
  induction k with
  | zero => simp [stN]
  | succ k ih => unfold stN; split <;> simp [ih]
theorem begun_eq (gr : Bool) (X : List S91) (n : Nat) (hn : X.length = n) : ∀ k, k ≤ n → begun gr (mkS X (List.replicate n 0) (List.replicate n false)) k = mkS X (isN gr X n k) (stN gr X n k)
  | 0, _ => rfl
  | k + 1, h => by
    have ih := begun_eq gr X n hn k (by omega)
    unfold begun isN stN
    rw [mkS_rd X _ _ k (by omega), ih]
    have hat : atOnce gr ⟨rd_T91 X (k : Int), longOf (rd_T91 X (k : Int)), rdOf false (List.replicate n false) (k : Int), rd (List.replicate n 0) (k : Int)⟩ = atO gr (rd_T91 X (k : Int)) := rfl
    rw [hat]
    cases atO gr (rd_T91 X (k : Int))
    · rfl
    · exact mkS_set X _ _ k _ true (by omega) (by rw [isN_length]; omega) (by rw [stN_length]; omega)
theorem sumTo_eq (gr : Bool) (X : List S91) (Y : List Int) (Z : List Bool) : ∀ k, k ≤ X.length → sumTo gr (mkS X Y Z) k = sumR gr X Z k
  | 0, _ => rfl
  | k + 1, h => by
    have ih := sumTo_eq gr X Y Z k (by omega)
    unfold sumTo sumR
    rw [mkS_rd X _ _ k (by omega), ih]
    rfl
/-! What is free. -/
def valS (x : S99) : Int := if x.f2 then x.f3 else x.f0.f0
def totS (f : S99 → Int) (xs : List S99) : Nat → Int
  | 0 => 0
  | k + 1 => totS f xs k + (f (rd_T99 xs (k : Int)) + (rd_T99 xs (k : Int)).f0.f5)
theorem wrap_sub (a b : Int) : wrap64 (wrap64 a - b) = wrap64 (a - b) := by unfold wrap64; omega
theorem wrap_sub2 (a b c : Int) : wrap64 (wrap64 (a - b) - wrap64 c) = wrap64 (a - (b + c)) := by unfold wrap64; omega
theorem wrap_add (a b : Int) : wrap64 (wrap64 a + b) = wrap64 (a + b) := by unfold wrap64; omega
theorem wrap_wrap (a : Int) : wrap64 (wrap64 a) = wrap64 a := by unfold wrap64; omega
theorem freeNow_l0 (rm : Int) (gr : Bool) (xs : List S99) (hl : xs.length ≤ 50) : ∀ (d k i : Nat), xs.length - i = d → i ≤ xs.length → d < k →
    flex_freeNow.l0 k (wrap64 (rm - totS valS xs i)) xs (xs.length : Int) i rm xs gr = some (wrap64 (rm - totS valS xs xs.length), rm, gr)
  | 0, k, i, hd, hi, hk => by
    obtain ⟨k, rfl⟩ : ∃ m, k = m + 1 := ⟨k - 1, by omega⟩
    obtain rfl : i = xs.length := by omega
    simp only [flex_freeNow.l0]
    rw [if_neg (by omega)]
  | d + 1, k, i, hd, hi, hk => by
    obtain ⟨k, rfl⟩ : ∃ m, k = m + 1 := ⟨k - 1, by omega⟩
    simp only [flex_freeNow.l0]
    rw [if_pos (by omega), if_pos (by omega), if_pos (by omega), step50 i (by omega)]
    have hv : flex_row_now_fn1.f ((rd_T99 xs i).f0.f0) ((rd_T99 xs i).f0.f1) ((rd_T99 xs i).f0.f2) ((rd_T99 xs i).f0.f3) ((rd_T99 xs i).f0.f4) ((rd_T99 xs i).f0.f5) ((rd_T99 xs i).f1) ((rd_T99 xs i).f2) ((rd_T99 xs i).f3) = some (valS (rd_T99 xs i)) := by
      unfold flex_row_now_fn1.f valS
      split <;> rfl
    rw [hv, Option.bind_some, wrap_sub2]
    exact freeNow_l0 rm gr xs hl d k (i + 1) (by omega) (by omega) (by omega)
theorem freeLong_l0 (rm : Int) (gr : Bool) (xs : List S99) (hl : xs.length ≤ 50) : ∀ (d k i : Nat), xs.length - i = d → i ≤ xs.length → d < k →
    flex_freeLong.l0 k (wrap64 (rm - totS (fun x => x.f1) xs i)) xs (xs.length : Int) i rm xs gr = some (wrap64 (rm - totS (fun x => x.f1) xs xs.length), rm, gr)
  | 0, k, i, hd, hi, hk => by
    obtain ⟨k, rfl⟩ : ∃ m, k = m + 1 := ⟨k - 1, by omega⟩
    obtain rfl : i = xs.length := by omega
    simp only [flex_freeLong.l0]
    rw [if_neg (by omega)]
  | d + 1, k, i, hd, hi, hk => by
    obtain ⟨k, rfl⟩ : ∃ m, k = m + 1 := ⟨k - 1, by omega⟩
    simp only [flex_freeLong.l0]
    rw [if_pos (by omega), if_pos (by omega), if_pos (by omega), step50 i (by omega)]
    unfold flex_Mains_fn1.f
    rw [Option.bind_some, wrap_sub2]
    exact freeLong_l0 rm gr xs hl d k (i + 1) (by omega) (by omega) (by omega)
def edgeT (X : List S91) : Nat → Int
  | 0 => 0
  | k + 1 => edgeT X k + (rd_T91 X (k : Int)).f5
def valT (X : List S91) (Y : List Int) (Z : List Bool) : Nat → Int
  | 0 => 0
  | k + 1 => valT X Y Z k + (if rdOf false Z (k : Int) then rd Y (k : Int) else (rd_T91 X (k : Int)).f0)
def longT (X : List S91) : Nat → Int
  | 0 => 0
  | k + 1 => longT X k + longOf (rd_T91 X (k : Int))
theorem totS_val (X : List S91) (Y : List Int) (Z : List Bool) : ∀ k, k ≤ X.length → totS valS (mkS X Y Z) k = valT X Y Z k + edgeT X k
  | 0, _ => rfl
  | k + 1, h => by
    have ih := totS_val X Y Z k (by omega)
    unfold totS valT edgeT
    rw [mkS_rd X _ _ k (by omega), ih]
    unfold valS
    simp only
    omega
theorem totS_long (X : List S91) (Y : List Int) (Z : List Bool) : ∀ k, k ≤ X.length → totS (fun x => x.f1) (mkS X Y Z) k = longT X k + edgeT X k
  | 0, _ => rfl
  | k + 1, h => by
    have ih := totS_long X Y Z k (by omega)
    unfold totS longT edgeT
    rw [mkS_rd X _ _ k (by omega), ih]
    simp only
    omega
theorem freeN_eq (left : Int) (X : List S91) (Y : List Int) (Z : List Bool) : ∀ k, wrap64 left = left → freeN left X Y Z k = wrap64 (left - valT X Y Z k)
  | 0, h => by unfold freeN valT; rw [Int.sub_zero, h]
  | k + 1, h => by
    unfold freeN valT
    rw [freeN_eq left X Y Z k h, wrap_sub]
    congr 1
    omega
theorem rd_flexible (l : List S91) (k : Nat) (h : k < l.length) : rd_T91 (l.map flexible) (k : Int) = flexible (rd_T91 l (k : Int)) := by
  rw [rd91 _ k (by rw [List.length_map]; exact h), rd91 _ k h, List.getElem_map]
theorem leftN_eq (rm : Int) (l : List S91) : ∀ k, k ≤ l.length → wrap64 rm = rm → leftN rm l k = wrap64 (rm - edgeT (l.map flexible) k)
  | 0, _, h => by unfold leftN edgeT; rw [Int.sub_zero, h]
  | k + 1, hk, h => by
    unfold leftN edgeT
    rw [leftN_eq rm l k (by omega) h, wrap_sub, rd_flexible l k (by omega)]
    congr 1
    omega
theorem longN_eq (l : List S91) : ∀ k, k ≤ l.length → longN l k = wrap64 (longT (l.map flexible) k)
  | 0, _ => by unfold longN longT wrap64; omega
  | k + 1, hk => by
    unfold longN longT
    rw [longN_eq l k (by omega), wrap_add, rd_flexible l k (by omega)]
theorem roomOf_wrap (a b : Int) (n : Nat) : wrap64 (roomOf a b n) = roomOf a b n := by unfold roomOf; exact wrap_wrap _
theorem now_eq (rm : Int) (hrm : wrap64 rm = rm) (gr : Bool) (l : List S91) (hl : l.length ≤ 50) (Y : List Int) (Z : List Bool) (k : Nat) (hk : 50 < k) :
    flex_row_now.f k rm (mkS (l.map flexible) Y Z) gr = some (freeN (leftN rm l l.length) (l.map flexible) Y Z l.length, rm, gr) := by
  have hX : (l.map flexible).length = l.length := List.length_map _
  have hlen := mkS_length (l.map flexible) Y Z
  have h := freeNow_l0 rm gr (mkS (l.map flexible) Y Z) (by omega) (mkS (l.map flexible) Y Z).length k 0 (by omega) (by omega) (by omega)
  unfold flex_row_now.f flex_freeNow.f
  have h0 : wrap64 (rm - totS valS (mkS (l.map flexible) Y Z) 0) = rm := by show wrap64 (rm - 0) = rm; rw [Int.sub_zero, hrm]
  rw [h0] at h
  have h1 : flex_freeNow.l0 k rm (mkS (l.map flexible) Y Z) ((mkS (l.map flexible) Y Z).length : Int) 0 rm (mkS (l.map flexible) Y Z) gr = _ := h
  rw [h1, Option.bind_some]
  have e1 := totS_val (l.map flexible) Y Z l.length (by omega)
  have e2 := leftN_eq rm l l.length (Nat.le_refl _) hrm
  have e3 := freeN_eq (leftN rm l l.length) (l.map flexible) Y Z l.length (by rw [e2]; exact wrap_wrap _)
  rw [hlen, hX, e1, e3, e2, wrap_sub]
  rw [show rm - (valT (l.map flexible) Y Z l.length + edgeT (l.map flexible) l.length) = rm - edgeT (l.map flexible) l.length - valT (l.map flexible) Y Z l.length by omega]
theorem long_eq (rm : Int) (hrm : wrap64 rm = rm) (gr : Bool) (l : List S91) (hl : l.length ≤ 50) (Y : List Int) (Z : List Bool) (k : Nat) (hk : 50 < k) :
    flex_freeLong.f k rm (mkS (l.map flexible) Y Z) gr = some (wrap64 (leftN rm l l.length - longN l l.length), rm, gr) := by
  have hX : (l.map flexible).length = l.length := List.length_map _
  have hlen := mkS_length (l.map flexible) Y Z
  have h := freeLong_l0 rm gr (mkS (l.map flexible) Y Z) (by omega) (mkS (l.map flexible) Y Z).length k 0 (by omega) (by omega) (by omega)
  unfold flex_freeLong.f
  have h0 : wrap64 (rm - totS (fun x => x.f1) (mkS (l.map flexible) Y Z) 0) = rm := by show wrap64 (rm - 0) = rm; rw [Int.sub_zero, hrm]
  rw [h0] at h
  have h1 : flex_freeLong.l0 k rm (mkS (l.map flexible) Y Z) ((mkS (l.map flexible) Y Z).length : Int) 0 rm (mkS (l.map flexible) Y Z) gr = _ := h
  rw [h1]
  have e1 := totS_long (l.map flexible) Y Z l.length (by omega)
  have e2 := leftN_eq rm l l.length (Nat.le_refl _) hrm
  have e3 := longN_eq l l.length (Nat.le_refl _)
  rw [hlen, hX, e1, e2, e3]
  have e4 : ∀ a b c : Int, wrap64 (wrap64 (a - b) - wrap64 c) = wrap64 (a - (c + b)) := by intro a b c; unfold wrap64; omega
  rw [e4]
/-! The parts. -/
def negs (ps : List Int) : List Int := ps.map fun x => wrap64 (-x)
theorem parts_l1 (ps : List Int) (rm : Int) (xs : List S99) (gr : Bool) (hl : ps.length ≤ 50) : ∀ (d k i : Nat), ps.length - i = d → i ≤ ps.length → d < k →
    flex_row_parts.l1 k (negs (ps.take i) ++ ps.drop i) (ps.length : Int) i rm xs gr = some (negs ps, rm, gr)
  | 0, k, i, hd, hi, hk => by
    obtain ⟨k, rfl⟩ : ∃ m, k = m + 1 := ⟨k - 1, by omega⟩
    obtain rfl : i = ps.length := by omega
    simp only [flex_row_parts.l1]
    rw [if_neg (by omega), List.take_length, List.drop_length, List.append_nil]
  | d + 1, k, i, hd, hi, hk => by
    obtain ⟨k, rfl⟩ : ∃ m, k = m + 1 := ⟨k - 1, by omega⟩
    have hlt : i < ps.length := by omega
    have hlen : (negs (ps.take i) ++ ps.drop i).length = ps.length := by unfold negs; simp; omega
    have hn : (negs (ps.take i)).length = i := by unfold negs; simp; omega
    simp only [flex_row_parts.l1]
    rw [if_pos (by omega), if_pos (by omega), if_pos (by omega), step50 i (by omega)]
    have hr : rd (negs (ps.take i) ++ ps.drop i) (i : Int) = ps[i] := by
      rw [rdI _ i (by omega), List.getElem_append_right (by omega)]
      simp only [hn, Nat.sub_self, List.getElem_drop, Nat.add_zero]
    have hs : (negs (ps.take i) ++ ps.drop i).set (i : Int).toNat (wrap64 (-ps[i])) = negs (ps.take (i + 1)) ++ ps.drop (i + 1) := by
      rw [Int.toNat_natCast, List.set_append_right _ _ (by omega), hn, Nat.sub_self, List.drop_eq_getElem_cons hlt, List.set_cons_zero, List.take_succ_eq_append_getElem hlt]
      unfold negs
      rw [List.map_append, List.append_assoc]
      rfl
    rw [hr, hs]
    exact parts_l1 ps rm xs gr hl d k (i + 1) (by omega) (by omega) (by omega)
theorem parts_neg (ps : List Int) (rm : Int) (xs : List S99) (gr : Bool) (hl : ps.length ≤ 50) (k : Nat) (hk : ps.length < k) : flex_row_parts.l1 k ps (ps.length : Int) 0 rm xs gr = some (negs ps, rm, gr) := by
  have h := parts_l1 ps rm xs gr hl ps.length k 0 (by omega) (by omega) hk
  have e : negs (ps.take 0) ++ ps.drop 0 = ps := by simp [negs]
  rw [e] at h
  exact h
theorem share_len (n : Int) (ws : List Int) : (share n ws).length = ws.length := by
  unfold share
  split <;> simp [shared_length]
def partsP (gr : Bool) (a : Int) (ws : List Int) : List Int := if gr then share (mx 0 a) ws else negs (share (mx 0 (wrap64 (-a))) ws)
theorem partsP_length (gr : Bool) (a : Int) (ws : List Int) : (partsP gr a ws).length = ws.length := by
  unfold partsP negs
  split <;> simp [share_len]
theorem wgt_f (x : S91) : wgt false x = part x.f4 (mx 0 x.f0) 64 := by unfold wgt; rw [if_neg (by decide)]
theorem wgt_t (x : S91) : wgt true x = x.f3 := by unfold wgt; rw [if_pos rfl]
theorem wR_succ (gr : Bool) (X : List S91) (Z : List Bool) (n k : Nat) : wR gr X Z n (k + 1) = if rdOf false Z (k : Int) then wR gr X Z n k else (wR gr X Z n k).set k (wgt gr (rd_T91 X (k : Int))) := rfl
theorem parts_l0 (a rm : Int) (gr : Bool) (X : List S91) (Y : List Int) (Z : List Bool) (n : Nat) (hn : X.length = n) (hl : n ≤ 50) : ∀ (d k i : Nat), n - i = d → i ≤ n → d + 51 < k →
    flex_row_parts.l0 k a (wR gr X Z n i) (mkS X Y Z) (n : Int) i rm (mkS X Y Z) gr = some (partsP gr a (wR gr X Z n n), rm, gr)
  | 0, k, i, hd, hi, hk => by
    obtain ⟨k, rfl⟩ : ∃ m, k = m + 1 := ⟨k - 1, by omega⟩
    obtain rfl : i = n := by omega
    simp only [flex_row_parts.l0]
    have hw := wR_length gr X Z i i
    have hs : ∀ q, fix_Share.f q (wR gr X Z i i) = some (share q (wR gr X Z i i)) := fun q => by unfold fix_Share.f; rw [if_pos (by omega)]
    rw [if_neg (by omega), hs, hs]
    cases gr
    · simp only [partsP, Bool.false_eq_true, if_false, Option.bind_some]
      exact parts_neg _ rm (mkS X Y Z) false (by rw [share_len]; omega) k (by rw [share_len]; omega)
    · simp only [partsP, if_true, Option.bind_some]
  | d + 1, k, i, hd, hi, hk => by
    obtain ⟨k, rfl⟩ : ∃ m, k = m + 1 := ⟨k - 1, by omega⟩
    have hw := wR_length gr X Z n i
    have hS := mkS_length X Y Z
    have ih := parts_l0 a rm gr X Y Z n hn hl d k (i + 1) (by omega) (by omega) (by omega)
    simp only [flex_row_parts.l0]
    rw [if_pos (by omega), if_pos (by omega), if_pos (by omega), step50 i (by omega), mkS_rd X _ _ i (by omega)]
    rw [wR_succ] at ih
    simp only
    cases hz : rdOf false Z (i : Int)
    · rw [hz] at ih
      simp only [Bool.false_eq_true, if_false, Int.toNat_natCast] at ih ⊢
      rw [part_a, Option.bind_some]
      cases gr
      · rw [wgt_f] at ih
        simp only [Bool.false_eq_true, if_false]
        rw [if_pos (by omega)]
        exact ih
      · rw [wgt_t] at ih
        simp only [if_true]
        rw [if_pos (by omega)]
        exact ih
    · rw [hz] at ih
      simp only [if_true] at ih ⊢
      exact ih
theorem parts_eq (a rm : Int) (gr : Bool) (X : List S91) (Y : List Int) (Z : List Bool) (n : Nat) (hn : X.length = n) (hl : n ≤ 50) (k : Nat) (hk : 102 < k) :
    flex_row_parts.f k rm (mkS X Y Z) gr a = some (partsP gr a (wR gr X Z n n), rm, gr) := by
  have h := parts_l0 a rm gr X Y Z n hn hl n k 0 (by omega) (by omega) (by omega)
  have hS := mkS_length X Y Z
  unfold flex_row_parts.f
  rw [if_pos (by omega), hS, hn, if_pos (by rw [Int.toNat_natCast]; omega), Int.toNat_natCast]
  exact h
/-! A turn. -/
theorem isR_length (gr : Bool) (q : List Int) (X : List S91) (Z : List Bool) (Y : List Int) (k : Nat) : (isR gr q X Z Y k).length = Y.length := by
  induction k with
  | zero => rfl
  | succ k ih => unfold isR; split <;> simp [ih]
theorem byR_length (gr : Bool) (q : List Int) (X : List S91) (Z : List Bool) (n k : Nat) : (byR gr q X Z n k).length = n := by
  induction k with
  | zero => simp [byR]
  | succ k ih => unfold byR; split <;> simp [ih]
theorem stR_length (all : Int) (bs : List Int) (Z : List Bool) (k : Nat) : (stR all bs Z k).length = Z.length := by
  induction k with
  | zero => rfl
  | succ k ih => unfold stR; simp [ih]
def partsOf (gr : Bool) (q : List Int) : List Int := if gr then q else negs q
theorem partsP_eq (gr : Bool) (a : Int) (ws : List Int) : partsP gr a ws = partsOf gr (share (mx 0 (nowS gr a)) ws) := by cases gr <;> rfl
theorem partsOf_length (gr : Bool) (q : List Int) : (partsOf gr q).length = q.length := by
  unfold partsOf negs
  split <;> simp
theorem would_eq (gr : Bool) (q : List Int) (X : List S91) (Y : List Int) (Z : List Bool) (j : Nat) (hj : j < X.length) (hq : q.length = X.length) : wouldOf (partsOf gr q) (mkS X Y Z) j = wouldR gr q X j := by
  unfold wouldOf wouldR signR
  rw [mkS_rd X Y Z j hj]
  cases gr
  · have h1 : rd (partsOf false q) (j : Int) = wrap64 (-(rd q (j : Int))) := by
      show rd (negs q) (j : Int) = _
      rw [rdI _ j (by unfold negs; simp; omega), rdI _ j (by omega)]
      unfold negs
      rw [List.getElem_map]
    rw [h1]
    simp only [Bool.false_eq_true, if_false]
    generalize rd q (j : Int) = x
    unfold wrap64
    omega
  · show wrap64 (_ + rd q (j : Int)) = _
    simp only [if_true]
    generalize rd q (j : Int) = x
    unfold wrap64
    omega
theorem is_eq (gr : Bool) (q : List Int) (X : List S91) (Y : List Int) (Z : List Bool) (j : Nat) (hj : j < X.length) (hq : q.length = X.length) : isOf (partsOf gr q) (mkS X Y Z) j = beR gr q X j := by
  unfold isOf beR
  rw [would_eq gr q X Y Z j hj hq, mkS_rd X Y Z j hj]
theorem by_eq (gr : Bool) (q : List Int) (X : List S91) (Y : List Int) (Z : List Bool) (j : Nat) (hj : j < X.length) (hq : q.length = X.length) : byOf (partsOf gr q) (mkS X Y Z) j = byV gr q X j := by
  unfold byOf byV
  rw [would_eq gr q X Y Z j hj hq, is_eq gr q X Y Z j hj hq]
theorem turned_eq (gr : Bool) (q : List Int) (X : List S91) (Y : List Int) (Z : List Bool) (hq : q.length = X.length) (hY : Y.length = X.length) (hZ : Z.length = X.length) : ∀ k, k ≤ X.length →
    turned (partsOf gr q) (mkS X Y Z) k = mkS X (isR gr q X Z Y k) Z
  | 0, _ => rfl
  | k + 1, h => by
    have ih := turned_eq gr q X Y Z hq hY hZ k (by omega)
    unfold turned isR
    rw [is_eq gr q X Y Z k (by omega) hq, mkS_rd X Y Z k (by omega), ih]
    cases hz : rdOf false Z (k : Int)
    · have e : Z.set k false = Z := by rw [← hz]; exact setB_self Z k (by omega)
      have h2 := mkS_set X (isR gr q X Z Y k) Z k (beR gr q X k) false (by omega) (by rw [isR_length]; omega) hZ
      rw [e] at h2
      exact h2
    · rfl
theorem bys_eq (gr : Bool) (q : List Int) (X : List S91) (Y : List Int) (Z : List Bool) (hq : q.length = X.length) : ∀ k, k ≤ X.length → bys (partsOf gr q) (mkS X Y Z) k = byR gr q X Z X.length k
  | 0, _ => by unfold bys byR; rw [mkS_length]
  | k + 1, h => by
    have ih := bys_eq gr q X Y Z hq k (by omega)
    unfold bys byR
    rw [by_eq gr q X Y Z k (by omega) hq, mkS_rd X Y Z k (by omega), ih]
theorem changes_eq (gr : Bool) (q : List Int) (X : List S91) (Y : List Int) (Z : List Bool) (hq : q.length = X.length) : ∀ k, k ≤ X.length → changes (partsOf gr q) (mkS X Y Z) k = allR gr q X Z k
  | 0, _ => rfl
  | k + 1, h => by
    have ih := changes_eq gr q X Y Z hq k (by omega)
    unfold changes allR
    rw [by_eq gr q X Y Z k (by omega) hq, mkS_rd X Y Z k (by omega), ih]
theorem setR_eq (all b : Int) (z : Bool) : setR all b z = (z || settles all b) := by
  unfold setR settles
  rw [Bool.or_assoc, Bool.or_assoc]
theorem stR_rd (all : Int) (bs : List Int) (Z : List Bool) : ∀ (k j : Nat), k ≤ Z.length → rdOf false (stR all bs Z k) (j : Int) = if j < k then setR all (rd bs (j : Int)) (rdOf false Z (j : Int)) else rdOf false Z (j : Int)
  | 0, j, _ => by rw [if_neg (by omega)]; rfl
  | k + 1, j, h => by
    unfold stR
    rw [rdB_set _ _ _ _ (by rw [stR_length]; omega), stR_rd all bs Z k j (by omega)]
    by_cases e : j = k
    · subst e
      rw [if_pos rfl, if_pos (by omega)]
    · rw [if_neg e]
      by_cases e2 : j < k
      · rw [if_pos e2, if_pos (by omega)]
      · rw [if_neg e2, if_neg (by omega)]
theorem settled_eq (c : Int) (bs : List Int) (X : List S91) (Y : List Int) (Z : List Bool) (hY : Y.length = X.length) (hZ : Z.length = X.length) : ∀ k, k ≤ X.length → settled c bs (mkS X Y Z) k = mkS X Y (stR c bs Z k)
  | 0, _ => rfl
  | k + 1, h => by
    have ih := settled_eq c bs X Y Z hY hZ k (by omega)
    have hr := stR_rd c bs Z k k (by omega)
    rw [if_neg (Nat.lt_irrefl k)] at hr
    unfold settled stR
    rw [mkS_rd X Y Z k (by omega), ih, setR_eq]
    cases settles c (rd bs (k : Int))
    · rw [Bool.or_false, ← hr, setB_self _ k (by rw [stR_length]; omega)]
      rfl
    · rw [Bool.or_true]
      have h2 := mkS_set X Y (stR c bs Z k) k (rd Y (k : Int)) true (by omega) hY (by rw [stR_length]; omega)
      rw [setI_self Y k (by omega)] at h2
      exact h2
theorem nowR_eq (gr : Bool) (now first s : Int) : freeOf first now s = nowR gr now first s := by
  unfold freeOf nowR nearer
  by_cases h1 : s < 1000
  · rw [if_pos h1]
    by_cases h2 : mx (part first s 1000) (wrap64 (-(part first s 1000))) < mx now (wrap64 (-now))
    · rw [if_pos h2, if_pos ⟨h1, h2⟩]
    · rw [if_neg h2, if_neg (fun q => h2 q.2)]
  · rw [if_neg h1, if_neg (fun q => h1 q.1)]
theorem turn_eq (rm : Int) (hrm : wrap64 rm = rm) (gr : Bool) (l : List S91) (hl : l.length ≤ 50) (Y : List Int) (Z : List Bool) (hY : Y.length = l.length) (hZ : Z.length = l.length) (k : Nat) (hk : 102 < k) (first : Int) :
    turnF k rm gr first (mkS (l.map flexible) Y Z) = some (mkS (l.map flexible) (turnR gr (leftN rm l l.length) (l.map flexible) l.length first Y Z).1 (turnR gr (leftN rm l l.length) (l.map flexible) l.length first Y Z).2) := by
  have hX : (l.map flexible).length = l.length := List.length_map _
  have h1 := now_eq rm hrm gr l hl Y Z k (by omega)
  have hp := parts_eq (nowR gr (freeN (leftN rm l l.length) (l.map flexible) Y Z l.length) first (sumR gr (l.map flexible) Z l.length)) rm gr (l.map flexible) Y Z l.length hX hl k hk
  have hs := sumTo_eq gr (l.map flexible) Y Z (l.map flexible).length (Nat.le_refl _)
  obtain ⟨X, hXe⟩ : ∃ X, l.map flexible = X := ⟨_, rfl⟩
  obtain ⟨n, hn⟩ : ∃ n, l.length = n := ⟨_, rfl⟩
  obtain ⟨L, hL⟩ : ∃ L, leftN rm l l.length = L := ⟨_, rfl⟩
  rw [hL]
  rw [hL] at h1 hp
  rw [hn] at hX hY hZ h1 hp hl ⊢
  rw [hXe] at hX h1 hp hs ⊢
  clear hL hn hXe hrm
  unfold turnF
  rw [h1, Option.bind_some]
  simp only
  rw [mkS_length, hs, hX, nowR_eq gr, hp, Option.bind_some]
  simp only
  have hpl := partsP_length gr (nowR gr (freeN L X Y Z n) first (sumR gr X Z n)) (wR gr X Z n n)
  rw [wR_length] at hpl
  rw [if_pos ⟨hpl, trivial, trivial⟩, partsP_eq]
  have hpr : share (mx 0 (nowS gr (nowR gr (freeN L X Y Z n) first (sumR gr X Z n)))) (wR gr X Z n n) = partsR gr L X Y Z n first := rfl
  rw [hpr]
  have hq : (partsR gr L X Y Z n first).length = X.length := by unfold partsR; rw [share_len, wR_length, hX]
  unfold turnR
  obtain ⟨q, hqe⟩ : ∃ q, partsR gr L X Y Z n first = q := ⟨_, rfl⟩
  rw [hqe] at hq ⊢
  have e1 := turned_eq gr q X Y Z hq (by omega) (by omega) n (by omega)
  have e2 := bys_eq gr q X Y Z hq n (by omega)
  have e3 := changes_eq gr q X Y Z hq n (by omega)
  rw [hX] at e2
  rw [e1, e2, e3]
  have e4 := settled_eq (allR gr q X Z n) (byR gr q X Z n n) X (isR gr q X Z Y n) Z (by rw [isR_length]; omega) (by omega) n (by omega)
  rw [e4]
/-! All turns. -/
theorem opR_any (X : List S91) (Y : List Int) (Z : List Bool) : ∀ k, ((List.range k).map fun (j : Nat) => (⟨rd_T91 X (j : Int), longOf (rd_T91 X (j : Int)), rdOf false Z (j : Int), rd Y (j : Int)⟩ : S99)).any (fun x => !x.f2) = opR Z k
  | 0 => rfl
  | k + 1 => by
    unfold opR
    rw [List.range_succ, List.map_append, List.any_append, opR_any X Y Z k]
    cases h : rdOf false Z (k : Int)
    · simp [h]
    · simp [h]
theorem anyOpen_eq (X : List S91) (Y : List Int) (Z : List Bool) (n : Nat) (hn : X.length = n) : anyOpen (mkS X Y Z) = opR Z n := by
  subst hn
  exact opR_any X Y Z X.length
theorem turnR_length1 (gr : Bool) (L : Int) (X : List S91) (n : Nat) (first : Int) (Y : List Int) (Z : List Bool) : (turnR gr L X n first Y Z).1.length = Y.length := by
  unfold turnR
  exact isR_length _ _ _ _ _ _
theorem turnR_length2 (gr : Bool) (L : Int) (X : List S91) (n : Nat) (first : Int) (Y : List Int) (Z : List Bool) : (turnR gr L X n first Y Z).2.length = Z.length := by
  unfold turnR
  exact stR_length _ _ _ _
theorem loop_eq (rm : Int) (hrm : wrap64 rm = rm) (gr : Bool) (l : List S91) (hl : l.length ≤ 50) (k0 : Nat) (hk : 102 < k0) (first : Int) (r : List Int) : ∀ (k : Nat) (Y : List Int) (Z : List Bool), Y.length = l.length → Z.length = l.length →
    loopR gr (leftN rm l l.length) (l.map flexible) l.length first k Y Z = some r → r.length = l.length ∧ ∃ Z', loopF k0 rm gr first k (mkS (l.map flexible) Y Z) = some (mkS (l.map flexible) r Z')
  | 0, Y, Z, _, _, h => by simp [loopR] at h
  | k + 1, Y, Z, hY, hZ, h => by
    simp only [loopR] at h
    simp only [loopF]
    rw [anyOpen_eq _ Y Z l.length (List.length_map _)]
    cases hop : opR Z l.length
    · rw [hop] at h
      simp only [Bool.false_eq_true, if_false] at h ⊢
      obtain rfl := Option.some.inj h
      exact ⟨hY, Z, rfl⟩
    · rw [hop] at h
      simp only [if_true] at h ⊢
      rw [turn_eq rm hrm gr l hl Y Z hY hZ k0 hk first, Option.bind_some]
      exact loop_eq rm hrm gr l hl k0 hk first r k _ _ (by rw [turnR_length1]; exact hY) (by rw [turnR_length2]; exact hZ) h
/-! Each turn settles one. -/
def cntR (Z : List Bool) : Nat → Nat
  | 0 => 0
  | k + 1 => cntR Z k + (if rdOf false Z (k : Int) then 0 else 1)
theorem cntR_le (Z : List Bool) : ∀ k, cntR Z k ≤ k
  | 0 => Nat.le_refl _
  | k + 1 => by
    have := cntR_le Z k
    unfold cntR
    split <;> omega
theorem cntR_mono (Z Z' : List Bool) : ∀ k : Nat, (∀ j : Nat, j < k → rdOf false Z (j : Int) = true → rdOf false Z' (j : Int) = true) → cntR Z' k ≤ cntR Z k
  | 0, _ => Nat.le_refl _
  | k + 1, h => by
    have ih := cntR_mono Z Z' k (fun j hj => h j (by omega))
    have hk := h k (by omega)
    unfold cntR
    cases h1 : rdOf false Z (k : Int)
    · split <;> simp <;> omega
    · rw [hk h1]; simp; omega
theorem cntR_less (Z Z' : List Bool) (i : Nat) (hi1 : rdOf false Z (i : Int) = false) (hi2 : rdOf false Z' (i : Int) = true) : ∀ k : Nat, i < k → (∀ j : Nat, j < k → rdOf false Z (j : Int) = true → rdOf false Z' (j : Int) = true) → cntR Z' k < cntR Z k
  | 0, h, _ => absurd h (by omega)
  | k + 1, hlt, h => by
    by_cases e : i = k
    · subst e
      have := cntR_mono Z Z' i (fun j hj => h j (by omega))
      unfold cntR
      rw [hi1, hi2]
      simp
      omega
    · have ih := cntR_less Z Z' i hi1 hi2 k (by omega) (fun j hj => h j (by omega))
      have hk := h k (by omega)
      unfold cntR
      cases h1 : rdOf false Z (k : Int)
      · split <;> simp <;> omega
      · rw [hk h1]; simp; omega
theorem opR_one (Z : List Bool) : ∀ k, opR Z k = true → ∃ j, j < k ∧ rdOf false Z (j : Int) = false
  | 0, h => by simp [opR] at h
  | k + 1, h => by
    unfold opR at h
    cases h1 : rdOf false Z (k : Int)
    · exact ⟨k, by omega, h1⟩
    · rw [h1] at h
      obtain ⟨j, hj, e⟩ := opR_one Z k (by simpa using h)
      exact ⟨j, by omega, e⟩
theorem byV_le (gr : Bool) (q : List Int) (X : List S91) (k : Nat) : -33554432 ≤ byV gr q X k ∧ byV gr q X k ≤ 33554432 := by
  have h1 := betw_le (wouldR gr q X k) (rd_T91 X (k : Int)).f1 (rd_T91 X (k : Int)).f2
  have h2 := cut_le (wouldR gr q X k)
  unfold byV beR wrap64
  omega
theorem allR_le (gr : Bool) (q : List Int) (X : List S91) (Z : List Bool) : ∀ k : Nat, k ≤ 50 → -(33554432 * (k : Int)) ≤ allR gr q X Z k ∧ allR gr q X Z k ≤ 33554432 * (k : Int)
  | 0, _ => by simp [allR]
  | k + 1, h => by
    have ih := allR_le gr q X Z k (by omega)
    have hb := byV_le gr q X k
    unfold allR
    split
    · omega
    · unfold wrap64
      omega
theorem allR_pos (gr : Bool) (q : List Int) (X : List S91) (Z : List Bool) : ∀ k : Nat, k ≤ 50 → 0 < allR gr q X Z k → ∃ j, j < k ∧ rdOf false Z (j : Int) = false ∧ 0 < byV gr q X j
  | 0, _, h => by simp [allR] at h
  | k + 1, hk, h => by
    have hb := byV_le gr q X k
    have ha := allR_le gr q X Z k (by omega)
    unfold allR at h
    cases hz : rdOf false Z (k : Int)
    · rw [hz] at h
      simp only [Bool.false_eq_true, if_false] at h
      by_cases e : 0 < byV gr q X k
      · exact ⟨k, by omega, hz, e⟩
      · obtain ⟨j, h1, h2⟩ := allR_pos gr q X Z k (by omega) (by unfold wrap64 at h; omega)
        exact ⟨j, by omega, h2⟩
    · rw [hz] at h
      obtain ⟨j, h1, h2⟩ := allR_pos gr q X Z k (by omega) (by simpa using h)
      exact ⟨j, by omega, h2⟩
theorem allR_neg (gr : Bool) (q : List Int) (X : List S91) (Z : List Bool) : ∀ k : Nat, k ≤ 50 → allR gr q X Z k < 0 → ∃ j, j < k ∧ rdOf false Z (j : Int) = false ∧ byV gr q X j < 0
  | 0, _, h => by simp [allR] at h
  | k + 1, hk, h => by
    have hb := byV_le gr q X k
    have ha := allR_le gr q X Z k (by omega)
    unfold allR at h
    cases hz : rdOf false Z (k : Int)
    · rw [hz] at h
      simp only [Bool.false_eq_true, if_false] at h
      by_cases e : byV gr q X k < 0
      · exact ⟨k, by omega, hz, e⟩
      · obtain ⟨j, h1, h2⟩ := allR_neg gr q X Z k (by omega) (by unfold wrap64 at h; omega)
        exact ⟨j, by omega, h2⟩
    · rw [hz] at h
      obtain ⟨j, h1, h2⟩ := allR_neg gr q X Z k (by omega) (by simpa using h)
      exact ⟨j, by omega, h2⟩
theorem byR_rd (gr : Bool) (q : List Int) (X : List S91) (Z : List Bool) (n : Nat) : ∀ (k j : Nat), k ≤ n → j < k → rdOf false Z (j : Int) = false → rd (byR gr q X Z n k) (j : Int) = byV gr q X j
  | 0, j, _, h, _ => absurd h (by omega)
  | k + 1, j, hk, h, hz => by
    unfold byR
    by_cases e : j = k
    · subst e
      rw [hz]
      simp only [Bool.false_eq_true, if_false]
      rw [rdI_set _ _ _ _ (by rw [byR_length]; omega), if_pos rfl]
    · have ih := byR_rd gr q X Z n k j (by omega) (by omega) hz
      split
      · exact ih
      · rw [rdI_set _ _ _ _ (by rw [byR_length]; omega), if_neg e]
        exact ih
theorem turn_less (gr : Bool) (L : Int) (X : List S91) (n : Nat) (hn : n ≤ 50) (first : Int) (Y : List Int) (Z : List Bool) (hZ : Z.length = n) (ho : opR Z n = true) : cntR (turnR gr L X n first Y Z).2 n < cntR Z n := by
  unfold turnR
  simp only
  generalize partsR gr L X Y Z n first = q
  have hw : ∃ i, i < n ∧ rdOf false Z (i : Int) = false ∧ setR (allR gr q X Z n) (rd (byR gr q X Z n n) (i : Int)) false = true := by
    by_cases h0 : allR gr q X Z n = 0
    · obtain ⟨j, h1, h2⟩ := opR_one Z n ho
      exact ⟨j, h1, h2, by unfold setR; rw [h0]; simp⟩
    · by_cases hp : 0 < allR gr q X Z n
      · obtain ⟨j, h1, h2, h3⟩ := allR_pos gr q X Z n hn hp
        refine ⟨j, h1, h2, ?_⟩
        rw [byR_rd gr q X Z n n j (Nat.le_refl _) h1 h2]
        unfold setR
        rw [decide_eq_true (show allR gr q X Z n > 0 from hp), decide_eq_true (show byV gr q X j > 0 from h3)]
        simp
      · obtain ⟨j, h1, h2, h3⟩ := allR_neg gr q X Z n hn (by omega)
        refine ⟨j, h1, h2, ?_⟩
        rw [byR_rd gr q X Z n n j (Nat.le_refl _) h1 h2]
        unfold setR
        rw [decide_eq_true (show allR gr q X Z n < 0 by omega), decide_eq_true h3]
        simp
  obtain ⟨i, h1, h2, h3⟩ := hw
  refine cntR_less Z _ i h2 ?_ n h1 ?_
  · rw [stR_rd _ _ _ _ _ (by omega), if_pos h1, h2]
    exact h3
  · intro j hj hz
    rw [stR_rd _ _ _ _ _ (by omega), if_pos hj, hz, setR_eq, Bool.true_or]
theorem loop_some (gr : Bool) (L : Int) (X : List S91) (n : Nat) (hn : n ≤ 50) (first : Int) : ∀ (k : Nat) (Y : List Int) (Z : List Bool), Z.length = n → cntR Z n < k → ∃ r, loopR gr L X n first k Y Z = some r
  | 0, Y, Z, _, h => absurd h (by omega)
  | k + 1, Y, Z, hZ, h => by
    simp only [loopR]
    cases ho : opR Z n
    · exact ⟨Y, rfl⟩
    · have := turn_less gr L X n hn first Y Z hZ ho
      exact loop_some gr L X n hn first k _ _ (by rw [turnR_length2]; exact hZ) (by omega)
/-- What the reference's Mains computes. -/
def refL (room gap : Int) (l : List S91) (k : Nat) : Option (List Int) :=
  let X := l.map flexible; let n := l.length; let L := leftN (roomOf room gap n) l n; let gr := decide (0 < wrap64 (L - longN l n)); loopR gr L X n (freeN L X (isN gr X n n) (stN gr X n n) n) k (isN gr X n n) (stN gr X n n)
theorem rd_map_mx (r : List Int) (X : List S91) (Z : List Bool) (h : r.length = X.length) : (mkS X r Z).map (fun x => mx 0 x.f3) = r.map fun x => mx 0 x := by
  apply List.ext_getElem (by simp [mkS_length, h])
  intro j h1 h2
  have hj : j < X.length := by simpa [mkS_length] using h1
  have e := mkS_rd X r Z j hj
  rw [rd99 _ j (by rw [mkS_length]; exact hj)] at e
  rw [List.getElem_map, List.getElem_map, e, rdI r j (by omega)]
theorem itemOf_mkS (l : List S91) : l.map itemOf = mkS (l.map flexible) (List.replicate l.length 0) (List.replicate l.length false) := by
  apply List.ext_getElem (by simp [mkS_length])
  intro j h1 h2
  have hj : j < l.length := by simpa using h1
  have e := mkS_rd (l.map flexible) (List.replicate l.length 0) (List.replicate l.length false) j (by rw [List.length_map]; exact hj)
  rw [rd99 _ j h2, rd91 _ j (by rw [List.length_map]; exact hj), rdI _ j (by rw [List.length_replicate]; exact hj)] at e
  rw [e]
  have hb : rdOf false (List.replicate l.length false) (j : Int) = false := by
    unfold rdOf
    rw [Int.toNat_natCast, List.getD_eq_getElem?_getD, List.getElem?_eq_getElem (by rw [List.length_replicate]; exact hj), List.getElem_replicate]
    rfl
  rw [hb, List.getElem_map, List.getElem_map, List.getElem_replicate]
  rfl
theorem mains_eq (room gap : Int) (l : List S91) (hl : l.length ≤ 50) (k : Nat) (hk : 102 < k) : ∃ r, r.length = l.length ∧ refL room gap l k = some r ∧ flex_Mains.f k room gap l = some (r.map fun x => mx 0 x) := by
  have hX : (l.map flexible).length = l.length := List.length_map _
  have hrm := roomOf_wrap room gap l.length
  unfold refL flex_Mains.f
  simp only
  obtain ⟨rm, hrme⟩ : ∃ q, roomOf room gap l.length = q := ⟨_, rfl⟩
  rw [hrme] at hrm ⊢
  rw [if_pos ⟨by omega, hl⟩, items_f l hl k (by omega), Option.bind_some, if_pos (List.length_map _), itemOf_mkS, long_eq rm hrm false l hl _ _ k (by omega), Option.bind_some]
  unfold mainsF
  simp only
  rw [if_pos trivial]
  generalize decide (0 < wrap64 (leftN rm l l.length - longN l l.length)) = gr
  have hb := begun_eq gr (l.map flexible) l.length hX l.length (Nat.le_refl _)
  rw [mkS_length, hX, hb, now_eq rm hrm gr l hl _ _ k (by omega), Option.bind_some]
  simp only
  rw [if_pos trivial]
  obtain ⟨r, hr⟩ := loop_some gr (leftN rm l l.length) (l.map flexible) l.length hl (freeN (leftN rm l l.length) (l.map flexible) (isN gr (l.map flexible) l.length l.length) (stN gr (l.map flexible) l.length l.length) l.length) k (isN gr (l.map flexible) l.length l.length) (stN gr (l.map flexible) l.length l.length) (stN_length _ _ _ _) (by have := cntR_le (stN gr (l.map flexible) l.length l.length) l.length; omega)
  obtain ⟨h1, Z', h2⟩ := loop_eq rm hrm gr l hl k hk _ r k _ _ (isN_length _ _ _ _) (stN_length _ _ _ _) hr
  refine ⟨r, h1, hr, ?_⟩
  rw [h2, Option.bind_some, rd_map_mx r _ Z' (by omega)]
end Go.Proofs.Ytaejmgdpnnhpmaa.QFlex
