/- white.isBlank, Idle and Turn, walked by hand: the library's IndexByte by its own text, down to the model's entry of internal/bytealg; strings.Trim by the shelf's contract at an ASCII cutset. -/
import Derived.Test.YtaejmgdpnnhpmaaDoorProg
import Derived.Lib.Strings
import Derived.Lib.Slices
import Derived.Lib.Walk
import Derived.Lib.Bytealg
import Derived.Ground.NamesProg
import Derived.Shelf.Lay
import Derived.Shelf.Strings.SlTrimAscii
import Derived.Lib.ConvBytes
import Derived.Test.YtaejmgdpnnhpmaaDoorWMore
namespace Go.Proofs
open Go.Shelf
shelf_lay Lays.n160 Nm 160 at Tryd as Tryd.lays160
end Go.Proofs
namespace Go.Proofs.YtaejmgdpnnhpmaaDoor.QWhiteTurns
open Go.RowKit Go.Shelf Go.Proofs.YtaejmgdpnnhpmaaDoorW.PrintWords Go.Proofs.YtaejmgdpnnhpmaaDoorW.PrintLast Go.Proofs.YtaejmgdpnnhpmaaDoorW.PrintMore
set_option maxHeartbeats 1000000 in
set_option maxRecDepth 100000 in
theorem inner_IndexByte (s : ByteArray) (c : Int) (w : World) :
    Calls Tryd.prog 64 #[.string s, .int .u8 c] w fun e w' => e = .returned (.int .i64 (Lib.indexByte s.data.toList c.toNat.toUInt8)) ∧ w' = w := by
  go_enter Tryd.func64, Tryd.ntmps64
  go_wp2
  rw [run_callFunc_extern Tryd.func69 (by kernel_rfl) (by kernel_rfl) (by kernel_rfl) (e := Extern.BytealgIndexByte.indexByte) (by kernel_rfl), Lib.run_indexByteString]
  simp only [Result.andThen]
  rw [Oper.upon_value]
  go_wp2
  go_ret
  exact ⟨rfl, rfl⟩
set_option maxHeartbeats 1000000 in
theorem outer_IndexByte (s : ByteArray) (c : Int) (w : World) :
    Calls Tryd.prog 54 #[.string s, .int .u8 c] w fun e w' => e = .returned (.int .i64 (Lib.indexByte s.data.toList c.toNat.toUInt8)) ∧ w' = w := by
  go_enter Tryd.func54, Tryd.ntmps54
  go_wp2_with (go_at_call 64; refine (inner_IndexByte _ _ _).mono ?_; rintro e w' ⟨rfl, rfl⟩)
  go_ret
  exact ⟨rfl, rfl⟩
def white_isBlank.f (a0 : Int) : Option (Bool) := some (decide (0 ≤ Lib.indexByte [32, 9, 10, 12, 13] a0.toNat.toUInt8))
set_option maxHeartbeats 1000000 in
theorem white_isBlank.calls (a0 : Int) (r : Bool) (w : World) (h : white_isBlank.f a0 = some r) :
    Calls Tryd.prog 40 #[.int .u8 a0] w fun e w' => e = .returned (.bool r) ∧ Drawn0 w w' := by
  obtain rfl := Option.some.inj h
  go_enter Tryd.func40, Tryd.ntmps40
  go_wp2_with (go_at_call 54; refine (outer_IndexByte _ _ _).mono ?_; rintro e w' ⟨rfl, rfl⟩)
  go_ret
  exact ⟨rfl, Drawn0.refl _⟩
/-- Idle. -/
def idle (s : ByteArray) : Bool := (Lib.trimS s.data.toList [32, 9, 10, 12, 13]).isEmpty
def white_Idle.f (a0 : ByteArray) : Option (Bool) := if a0.size ≤ 400 then some (idle a0) else none
set_option maxHeartbeats 1000000 in
theorem white_Idle.calls (a0 : ByteArray) (r : Bool) (w : World) (h : white_Idle.f a0 = some r) :
    Calls Tryd.prog 15 #[.string a0] w fun e w' => e = .returned (.bool r) ∧ Below w.heap.size w w' := by
  unfold white_Idle.f at h
  split at h
  · rename_i hs
    obtain rfl := Option.some.inj h
    have hcon := Any.strings_Trim_laid Tryd.lays160 (by kernel_rfl) a0 ⟨#[32, 9, 10, 12, 13]⟩ w (by omega) (by decide) (ascii_of_all (by decide))
    change Calls Tryd.prog 33 _ _ (fun e w' => e = .returned (.string ⟨(Lib.trimS a0.data.toList [32, 9, 10, 12, 13]).toArray⟩) ∧ Below w.heap.size w w') at hcon
    unfold idle
    generalize Lib.trimS a0.data.toList [32, 9, 10, 12, 13] = t at hcon ⊢
    go_enter Tryd.func15, Tryd.ntmps15
    go_wp2_with (go_at_call 33; refine hcon.mono ?_; rintro e w' ⟨rfl, hB⟩)
    go_ret
    refine ⟨?_, hB⟩
    cases t <;> rfl
  · cases h
theorem fz_put {w : World} {g : Nat} {t : TypeId} {cs : Array Value} {fz : Nat × Nat} (h : w.heap[g]? = some (.cells cs t fz)) (i : Nat) (u : Value) : (w.setCell ⟨g, i, none⟩ u).heap[g]? = some (.cells (cs.setIfInBounds i u) t fz) := by
  rw [setCell_eq_setRow w g i cs t fz u h]
  exact setRow_heap w g cs _ t _ h
theorem fz_frozen {w : World} {g : Nat} {t : TypeId} {cs : Array Value} {fz : Nat × Nat} (h : w.heap[g]? = some (.cells cs t fz)) (i : Nat) (hi : i < fz.1) : w.frozen? ⟨g, i, none⟩ = false := by
  simp [World.frozen?, h]
  omega
/-- A byte, turned. -/
def tc (m c : Int) : Int := if m = 1 then (if 97 ≤ c then (if c ≤ 122 then c - 32 else c) else c) else (if 65 ≤ c then (if c ≤ 90 then c + 32 else c) else c)
/-- The bytes, the first k of them turned. -/
def trow (m : Int) (s : ByteArray) (k : Nat) (cs : Array Value) : Prop := s.size ≤ cs.size ∧ ∀ j, j < s.size → cs[j]? = some (.int .u8 (if j < k then tc m (bt s j) else bt s j))
theorem trow_start (m : Int) (w : World) (e : TypeId) (s : ByteArray) : trow m s 0 (Lib.bytesCells w e s) := by
  refine ⟨by have : s.data.size = s.size := rfl; simp [Lib.bytesCells, this]; try omega, fun j hj => ?_⟩
  have h := Lib.bytesWorld_cell w e s j hj
  rw [cell_of_row _ _ _ _ _ _ (Lib.bytesWorld_at_new w e s)] at h
  rw [h, if_neg (by omega)]
  have h' : j < s.data.toList.length := by rw [data_length]; exact hj
  have hb : bt s j = ((s[j]'hj).toNat : Int) := by simp [bt, hj]
  rw [hb]
  simp [List.getD_eq_getElem?_getD, List.getElem?_eq_getElem h']
  rfl
theorem trow_step {m : Int} {s : ByteArray} {k : Nat} {cs : Array Value} (h : trow m s k cs) (hk : k < s.size) : trow m s (k + 1) (cs.setIfInBounds k (.int .u8 (tc m (bt s k)))) := by
  refine ⟨by simp; exact h.1, fun j hj => ?_⟩
  by_cases e : k = j
  · subst e
    have := h.1
    rw [if_pos (by omega), Array.getElem?_setIfInBounds_self_of_lt (by omega)]
  · rw [Array.getElem?_setIfInBounds_ne e, h.2 j hj]
    have : (j < k + 1) = (j < k) := by apply propext; omega
    simp only [this]
theorem trow_same {m : Int} {s : ByteArray} {k : Nat} {cs : Array Value} (h : trow m s k cs) (hk : tc m (bt s k) = bt s k) : trow m s (k + 1) cs := by
  refine ⟨h.1, fun j hj => ?_⟩
  rw [h.2 j hj]
  by_cases e : j = k
  · subst e
    rw [if_neg (by omega), if_pos (by omega), hk]
  · have : (j < k + 1) = (j < k) := by apply propext; omega
    simp only [this]
/-- A text, turned. -/
def turned (m : Int) (s : ByteArray) : ByteArray := strOfNums ((List.range s.size).map fun j : Nat => tc m (bt s (j : Int)))
theorem trow_reads {m : Int} {s : ByteArray} {cs : Array Value} {w : World} {g : Nat} {t : TypeId} {fz : Nat × Nat} (h : trow m s s.size cs) (hw : w.heap[g]? = some (.cells cs t fz)) (hs : s.size ≤ 400) : ReadsInt w .u8 (some ⟨g, 0, none⟩) s.size ((List.range s.size).map fun j : Nat => tc m (bt s (j : Int))) := by
  refine ⟨by simp, by omega, fun _ => ⟨_, rfl, fun j hj => ?_⟩⟩
  rw [add_plain, cell_of_row _ _ _ _ _ _ hw, h.2 j hj, if_pos hj]
  simp [List.getD_eq_getElem?_getD, hj]
theorem tc_range (m : Int) (s : ByteArray) (k : Nat) : 0 ≤ tc m (bt s k) ∧ tc m (bt s k) ≤ 255 := by
  have := bt_range s k
  unfold tc
  repeat' split
  all_goals omega
def white_Turn.f (a0 : ByteArray) (a1 : Int) : Option (ByteArray) := if a0.size ≤ 400 then (if a1 = 1 then some (turned 1 a0) else if a1 = 2 then some (turned 2 a0) else some a0) else none
set_option maxHeartbeats 4000000 in
set_option maxRecDepth 100000 in
theorem white_Turn.calls (a0 : ByteArray) (a1 : Int) (r : ByteArray) (w : World) (h : white_Turn.f a0 a1 = some r) :
    Calls Tryd.prog 13 #[.string a0, .int .i64 a1] w fun e w' => e = .returned (.string r) ∧ Below w.heap.size w w' := by
  unfold white_Turn.f at h
  have HB := Aside0.mk (Below.refl w.heap.size w)
  split at h
  case isFalse => cases h
  rename_i hs
  have kb := fun W => print_bytes (P := Tryd.prog) 9 61 5 Tryd.underlying9 Tryd.underlying61 Tryd.underlying5 a0 W
  by_cases c1 : a1 = 1
  · rw [if_pos c1] at h
    obtain rfl := Option.some.inj h
    subst c1
    go_enter Tryd.func13, Tryd.ntmps13
    go_wp2
    have hg0 := Lib.bytesWorld_at_new w 5 a0
    have hb0 := bytes_below (Below.refl w.heap.size w) (Nat.le_refl _) 5 a0
    have hr0 := trow_start 1 w 5 a0
    have hz0 := hr0.1
    generalize hcs : Lib.bytesCells w 5 a0 = cs0 at hg0 hr0 hz0
    generalize hsz : cs0.size = z0 at hg0 hz0
    generalize Lib.bytesWorld w 5 a0 = w1 at hg0 hb0 ⊢
    generalize hgg : w.heap.size = g at hg0 ⊢
    have HG := Aside0.mk hg0
    have HBB := Aside0.mk hb0
    have HT := Aside0.mk hr0
    have HGE := Aside0.mk (Nat.le_of_eq hgg)
    clear hg0 hb0 hr0 hcs hsz kb
    go_loopw [24] (fun i wr => ∃ k : Nat, k ≤ a0.size ∧ i = .int .i64 k ∧ (∃ cs, Aside0 (wr.heap[g]? = some (.cells cs 5 (z0, z0 + 1))) ∧ Aside0 (trow 1 a0 k cs)) ∧ Aside0 (Below w.heap.size w wr)) (fun i _ => a0.size - (intOf i).toNat)
    case atStart => exact ⟨0, by omega, rfl, ⟨_, HG, HT⟩, HBB⟩
    case round =>
      obtain ⟨k, hk, rfl, ⟨cs, HC, HT⟩, HBr⟩ := hrel
      rcases (by omega : k = a0.size ∨ k < a0.size) with rfl | hlt
      · have hd : decide ((a0.size : Int) < (a0.size : Int)) = false := decide_eq_false (by omega)
        have hst : (convert 61 9 (.slice (some ⟨g, 0, none⟩) a0.size (grownCap w a0.size 0 5))).run Tryd.prog wr = .ok (.string (turned 1 a0)) wr := string_of_reads Tryd.underlying61 Tryd.underlying5 Tryd.underlying9 (trow_reads HT.out HC.out hs)
        go_wp2
        go_ret
        exact ⟨rfl, HBr.out⟩
      · have hd : decide ((k : Int) < (a0.size : Int)) = true := decide_eq_true (by omega)
        have hc0 := (cell_of_row _ _ k _ _ _ HC.out).trans ((HT.out.2 k hlt).trans (by rw [if_neg (by omega)]))
        have hf0 := fz_frozen HC.out k (by show k < z0; omega)
        have hrange := bt_range a0 k
        have hput := trow_step HT.out hlt
        have hsame := trow_same (m := 1) HT.out (k := k)
        have htc : tc 1 (bt a0 k) = tc 1 (bt a0 k) := rfl
        conv at htc => lhs; unfold tc
        generalize hcc : bt a0 (k : Int) = c at *
        have w32 : IntKind.i32.wrap c = c := by unfold IntKind.wrap; simp [IntKind.bits, IntKind.signed]; omega
        have hlo := HBr.out.size
        by_cases c1 : 97 ≤ c
        · have b1 : decide (97 ≤ c) = true := decide_eq_true c1
          by_cases c2 : c ≤ 122
          · have b2 : decide (c ≤ 122) = true := decide_eq_true c2
            rw [if_pos c1, if_pos c2] at htc
            rw [← htc] at hput
            have C1 := Aside0.mk c1
            have C2 := Aside0.mk c2
            clear hsame htc c1 c2
            go_wp2
            go_roundw
            case rel =>
              refine ⟨k + 1, by omega, by go_num, ⟨_, ⟨fz_put HC.out k _⟩, ⟨?_⟩⟩, ⟨HBr.out.setCell HGE.out _⟩⟩
              refine Eq.mpr (congrArg (fun x : Int => trow 1 a0 (k + 1) (cs.setIfInBounds k (.int .u8 x))) (?_ : _ = c - 32)) hput
              have := C1.out
              have := C2.out
              omega
            case measure => simp [intOf]; omega
          · have b2 : decide (c ≤ 122) = false := decide_eq_false c2
            rw [if_pos c1, if_neg c2] at htc
            have hput2 := Aside0.mk (hsame htc.symm)
            clear hsame htc hput c1 c2
            go_wp2
            go_roundw
            case rel => exact ⟨k + 1, by omega, by go_num, ⟨_, HC, hput2⟩, HBr⟩
            case measure => simp [intOf]; omega
        · have b1 : decide (97 ≤ c) = false := decide_eq_false c1
          rw [if_neg c1] at htc
          have hput2 := Aside0.mk (hsame htc.symm)
          clear hsame htc hput c1
          go_wp2
          go_roundw
          case rel => exact ⟨k + 1, by omega, by go_num, ⟨_, HC, hput2⟩, HBr⟩
          case measure => simp [intOf]; omega
  · rw [if_neg c1] at h
    by_cases c2 : a1 = 2
    · rw [if_pos c2] at h
      obtain rfl := Option.some.inj h
      subst c2
      go_enter Tryd.func13, Tryd.ntmps13
      go_wp2
      have hg0 := Lib.bytesWorld_at_new w 5 a0
      have hb0 := bytes_below (Below.refl w.heap.size w) (Nat.le_refl _) 5 a0
      have hr0 := trow_start 2 w 5 a0
      have hz0 := hr0.1
      generalize hcs : Lib.bytesCells w 5 a0 = cs0 at hg0 hr0 hz0
      generalize hsz : cs0.size = z0 at hg0 hz0
      generalize Lib.bytesWorld w 5 a0 = w1 at hg0 hb0 ⊢
      generalize hgg : w.heap.size = g at hg0 ⊢
      have HG := Aside0.mk hg0
      have HBB := Aside0.mk hb0
      have HT := Aside0.mk hr0
      have HGE := Aside0.mk (Nat.le_of_eq hgg)
      clear hg0 hb0 hr0 hcs hsz kb
      go_loopw [24] (fun i wr => ∃ k : Nat, k ≤ a0.size ∧ i = .int .i64 k ∧ (∃ cs, Aside0 (wr.heap[g]? = some (.cells cs 5 (z0, z0 + 1))) ∧ Aside0 (trow 2 a0 k cs)) ∧ Aside0 (Below w.heap.size w wr)) (fun i _ => a0.size - (intOf i).toNat)
      case atStart => exact ⟨0, by omega, rfl, ⟨_, HG, HT⟩, HBB⟩
      case round =>
        obtain ⟨k, hk, rfl, ⟨cs, HC, HT⟩, HBr⟩ := hrel
        rcases (by omega : k = a0.size ∨ k < a0.size) with rfl | hlt
        · have hd : decide ((a0.size : Int) < (a0.size : Int)) = false := decide_eq_false (by omega)
          have hst : (convert 61 9 (.slice (some ⟨g, 0, none⟩) a0.size (grownCap w a0.size 0 5))).run Tryd.prog wr = .ok (.string (turned 2 a0)) wr := string_of_reads Tryd.underlying61 Tryd.underlying5 Tryd.underlying9 (trow_reads HT.out HC.out hs)
          go_wp2
          go_ret
          exact ⟨rfl, HBr.out⟩
        · have hd : decide ((k : Int) < (a0.size : Int)) = true := decide_eq_true (by omega)
          have hc0 := (cell_of_row _ _ k _ _ _ HC.out).trans ((HT.out.2 k hlt).trans (by rw [if_neg (by omega)]))
          have hf0 := fz_frozen HC.out k (by show k < z0; omega)
          have hrange := bt_range a0 k
          have hput := trow_step HT.out hlt
          have hsame := trow_same (m := 2) HT.out (k := k)
          have htc : tc 2 (bt a0 k) = tc 2 (bt a0 k) := rfl
          conv at htc => lhs; unfold tc
          generalize hcc : bt a0 (k : Int) = c at *
          have w32 : IntKind.i32.wrap c = c := by unfold IntKind.wrap; simp [IntKind.bits, IntKind.signed]; omega
          have hlo := HBr.out.size
          by_cases c1 : 65 ≤ c
          · have b1 : decide (65 ≤ c) = true := decide_eq_true c1
            by_cases c2 : c ≤ 90
            · have b2 : decide (c ≤ 90) = true := decide_eq_true c2
              rw [if_pos c1, if_pos c2] at htc
              rw [← htc] at hput
              have C1 := Aside0.mk c1
              have C2 := Aside0.mk c2
              clear hsame htc c1 c2
              go_wp2
              go_roundw
              case rel =>
                refine ⟨k + 1, by omega, by go_num, ⟨_, ⟨fz_put HC.out k _⟩, ⟨?_⟩⟩, ⟨HBr.out.setCell HGE.out _⟩⟩
                refine Eq.mpr (congrArg (fun x : Int => trow 2 a0 (k + 1) (cs.setIfInBounds k (.int .u8 x))) (?_ : _ = c + 32)) hput
                have := C1.out
                have := C2.out
                omega
              case measure => simp [intOf]; omega
            · have b2 : decide (c ≤ 90) = false := decide_eq_false c2
              rw [if_pos c1, if_neg c2] at htc
              have hput2 := Aside0.mk (hsame htc.symm)
              clear hsame htc hput c1 c2
              go_wp2
              go_roundw
              case rel => exact ⟨k + 1, by omega, by go_num, ⟨_, HC, hput2⟩, HBr⟩
              case measure => simp [intOf]; omega
          · have b1 : decide (65 ≤ c) = false := decide_eq_false c1
            rw [if_neg c1] at htc
            have hput2 := Aside0.mk (hsame htc.symm)
            clear hsame htc hput c1
            go_wp2
            go_roundw
            case rel => exact ⟨k + 1, by omega, by go_num, ⟨_, HC, hput2⟩, HBr⟩
            case measure => simp [intOf]; omega
    · rw [if_neg c2] at h
      obtain rfl := Option.some.inj h
      have b1 : (a1 == 1) = false := beq_eq_false_iff_ne.mpr c1
      have b2 : (a1 == 2) = false := beq_eq_false_iff_ne.mpr c2
      go_enter Tryd.func13, Tryd.ntmps13
      go_wp2
      go_ret
      exact ⟨rfl, HB.out⟩
end Go.Proofs.YtaejmgdpnnhpmaaDoor.QWhiteTurns
