/- What the reference's Mains computes, in plain words. -/
import Derived.Test.YtaejmgdpnnhpmaaFlexItems
import Derived.Test.YtaejmgdpnnhpmaaFlexShareLaw
import Derived.Test.YtaejmgdpnnhpmaaRefClos
namespace Go.Proofs.Ytaejmgdpnnhpmaa.QFlex
open Go.RowKit Go.Proofs.YtaejmgdpnnhpmaaW.PrintWords Go.Proofs.YtaejmgdpnnhpmaaW.PrintLast Go.Proofs.YtaejmgdpnnhpmaaW.PrintMore
set_option linter.unusedVariables false
set_option linter.unusedSimpArgs false
def leftN (left : Int) (l : List S91) : Nat → Int
  | 0 => left
  | k + 1 => wrap64 (leftN left l k - (flexible (rd_T91 l (k : Int))).f5)
def longN (l : List S91) : Nat → Int
  | 0 => 0
  | k + 1 => wrap64 (longN l k + longOf (flexible (rd_T91 l (k : Int))))
def atO (gr : Bool) (x : S91) : Bool := (fac91 gr x == 0) || ((gr && decide (longOf x < x.f0)) || (!gr && decide (x.f0 < longOf x)))
def stN (gr : Bool) (X : List S91) (n : Nat) : Nat → List Bool
  | 0 => List.replicate n false
  | k + 1 => if atO gr (rd_T91 X (k : Int)) then (stN gr X n k).set k true else stN gr X n k
def isN (gr : Bool) (X : List S91) (n : Nat) : Nat → List Int
  | 0 => List.replicate n 0
  | k + 1 => if atO gr (rd_T91 X (k : Int)) then (isN gr X n k).set k (longOf (rd_T91 X (k : Int))) else isN gr X n k
def sumR (gr : Bool) (X : List S91) (Z : List Bool) : Nat → Int
  | 0 => 0
  | k + 1 => if rdOf false Z (k : Int) then sumR gr X Z k else wrap64 (sumR gr X Z k + fac91 gr (rd_T91 X (k : Int)))
def opR (Z : List Bool) : Nat → Bool
  | 0 => false
  | k + 1 => if rdOf false Z (k : Int) then opR Z k else true
def wgt (gr : Bool) (x : S91) : Int := if gr then x.f3 else part x.f4 (mx 0 x.f0) 64
def wR (gr : Bool) (X : List S91) (Z : List Bool) (n : Nat) : Nat → List Int
  | 0 => List.replicate n 0
  | k + 1 => if rdOf false Z (k : Int) then wR gr X Z n k else (wR gr X Z n k).set k (wgt gr (rd_T91 X (k : Int)))
theorem wR_length (gr : Bool) (X : List S91) (Z : List Bool) (n k : Nat) : (wR gr X Z n k).length = n := by
  induction k with
  | zero => simp [wR]
  | succ k ih => unfold wR; split <;> simp [ih]
def nowR (gr : Bool) (now begin sum : Int) : Int :=
  if sum < 1000 ∧ mx (part begin sum 1000) (wrap64 (-(part begin sum 1000))) < mx now (wrap64 (-now)) then part begin sum 1000 else now
def nowS (gr : Bool) (v : Int) : Int := if gr then v else wrap64 (-v)
def signR (gr : Bool) : Int := if gr then 1 else -1
def wouldR (gr : Bool) (ps : List Int) (X : List S91) (k : Nat) : Int := wrap64 ((rd_T91 X (k : Int)).f0 + wrap64 (signR gr * rd ps (k : Int)))
def beR (gr : Bool) (ps : List Int) (X : List S91) (k : Nat) : Int := betw (wouldR gr ps X k) (rd_T91 X (k : Int)).f1 (rd_T91 X (k : Int)).f2
def byV (gr : Bool) (ps : List Int) (X : List S91) (k : Nat) : Int := wrap64 (beR gr ps X k - cut (wouldR gr ps X k))
def isR (gr : Bool) (ps : List Int) (X : List S91) (Z : List Bool) (Y : List Int) : Nat → List Int
  | 0 => Y
  | k + 1 => if rdOf false Z (k : Int) then isR gr ps X Z Y k else (isR gr ps X Z Y k).set k (beR gr ps X k)
def byR (gr : Bool) (ps : List Int) (X : List S91) (Z : List Bool) (n : Nat) : Nat → List Int
  | 0 => List.replicate n 0
  | k + 1 => if rdOf false Z (k : Int) then byR gr ps X Z n k else (byR gr ps X Z n k).set k (byV gr ps X k)
def allR (gr : Bool) (ps : List Int) (X : List S91) (Z : List Bool) : Nat → Int
  | 0 => 0
  | k + 1 => if rdOf false Z (k : Int) then allR gr ps X Z k else wrap64 (allR gr ps X Z k + byV gr ps X k)
def setR (all b : Int) (z : Bool) : Bool := z || (all == 0) || (decide (all > 0) && decide (b > 0)) || (decide (all < 0) && decide (b < 0))
def stR (all : Int) (bs : List Int) (Z : List Bool) : Nat → List Bool
  | 0 => Z
  | k + 1 => (stR all bs Z k).set k (setR all (rd bs (k : Int)) (rdOf false Z (k : Int)))
def partsR (gr : Bool) (L : Int) (X : List S91) (Y : List Int) (Z : List Bool) (n : Nat) (begin : Int) : List Int :=
  share (mx 0 (nowS gr (nowR gr (freeN L X Y Z n) begin (sumR gr X Z n)))) (wR gr X Z n n)
def turnR (gr : Bool) (L : Int) (X : List S91) (n : Nat) (begin : Int) (Y : List Int) (Z : List Bool) : List Int × List Bool :=
  (isR gr (partsR gr L X Y Z n begin) X Z Y n, stR (allR gr (partsR gr L X Y Z n begin) X Z n) (byR gr (partsR gr L X Y Z n begin) X Z n n) Z n)
def loopR (gr : Bool) (L : Int) (X : List S91) (n : Nat) (begin : Int) : Nat → List Int → List Bool → Option (List Int)
  | 0, _, _ => none
  | k + 1, Y, Z => if opR Z n then loopR gr L X n begin k (turnR gr L X n begin Y Z).1 (turnR gr L X n begin Y Z).2 else some Y
def told91 (l : List S91) (i : Nat) : List S91 := (l.take i).map flexible ++ List.replicate (l.length - i) z91
theorem told91_set (l : List S91) (i : Nat) (h : i < l.length) : (told91 l i).set i (flexible (rd_T91 l (i : Int))) = told91 l (i + 1) := by
  rw [rd91 l i h]
  unfold told91
  rw [List.take_succ_eq_append_getElem h, List.map_append, show l.length - i = (l.length - (i + 1)) + 1 by omega, List.replicate_succ, List.set_append_right _ _ (by rw [List.length_map, List.length_take]; omega), List.length_map, List.length_take, Nat.min_eq_left (Nat.le_of_lt h), Nat.sub_self, List.set_cons_zero, List.append_assoc]
  rfl
theorem told91_length (l : List S91) (i : Nat) (h : i ≤ l.length) : (told91 l i).length = l.length := by unfold told91; simp; omega
theorem rd91_set (X : List S91) (k : Nat) (y : S91) (h : k < X.length) : rd_T91 (X.set k y) (k : Int) = y := by
  rw [rd91 _ k (by rw [List.length_set]; exact h), List.getElem_set_self]
theorem told91_end (l : List S91) : told91 l l.length = l.map flexible := by unfold told91; simp
end Go.Proofs.Ytaejmgdpnnhpmaa.QFlex
