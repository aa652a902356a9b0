/- RasterOver: Over answers what the document's reference answers, of every three numbers. -/
import Derived.Test.YtaejmgdpnnhpmaaQRasterOverx4
namespace Go.Proofs.Ytaejmgdpnnhpmaa.Pure
open Go.RowKit Go.Proofs.Ytaejmgdpnnhpmaa.QRasterOver Go.Proofs.YtaejmgdpnnhpmaaW.PrintWords Go.Proofs.YtaejmgdpnnhpmaaW.PrintLast Go.Proofs.YtaejmgdpnnhpmaaW.PrintMore

theorem and255 (x : Int) : bits .and .i64 x 255 = x % 256 := by
  have h1 : ((BitVec.ofInt 64 x) &&& (BitVec.ofInt 64 255)).toNat = (x % 18446744073709551616).toNat % 256 := by
    rw [BitVec.toNat_and, BitVec.toNat_ofInt, show (BitVec.ofInt 64 255).toNat = 2 ^ 8 - 1 from rfl, Nat.and_two_pow_sub_one_eq_mod]
    rfl
  show IntKind.i64.wrap (((BitVec.ofInt 64 x &&& BitVec.ofInt 64 255).toNat : Nat) : Int) = x % 256
  rw [h1, IntKind.wrap_i64]
  omega
theorem or_comm64 (a b : Int) : bits .or .i64 a b = bits .or .i64 b a := by
  show IntKind.i64.wrap (((BitVec.ofInt 64 a ||| BitVec.ofInt 64 b).toNat : Nat) : Int) = IntKind.i64.wrap (((BitVec.ofInt 64 b ||| BitVec.ofInt 64 a).toNat : Nat) : Int)
  rw [BitVec.or_comm]
theorem wraps_i64 (n : Int) (h0 : 0 ≤ n) (h1 : n < 2 ^ 40) : IntKind.i64.wrap n = n := by
  have : (2 : Int) ^ 40 = 1099511627776 := by decide
  rw [IntKind.wrap_i64]
  omega
theorem or_at (lo v : Int) (i : Nat) (hi : i = 8 ∨ i = 16 ∨ i = 24) (h0 : 0 ≤ lo) (h1 : lo < 2 ^ i) (hv0 : 0 ≤ v) (hv1 : v ≤ 255) : bits .or .i64 lo (shl .i64 v (i : Int)) = lo + v * 2 ^ i := by
  have e : shl .i64 v (i : Int) = v * 2 ^ i := by
    unfold shl
    have hm : min ((i : Int).toNat) IntKind.i64.bits = i := by
      simp only [IntKind.bits]
      omega
    rw [hm]
    apply wraps_i64
    · rcases hi with rfl | rfl | rfl <;> omega
    · rcases hi with rfl | rfl | rfl <;> omega
  rw [e, or_comm64, bits_join .i64 40 (by decide) wraps_i64 i]
  · omega
  · rcases hi with rfl | rfl | rfl <;> omega
  · simp
  · rcases hi with rfl | rfl | rfl <;> omega
  · exact h0
  · exact h1
  · rcases hi with rfl | rfl | rfl <;> omega
theorem tdiv_lit (n d : Int) (hd : 0 < d) : n.tdiv d = n / d + (if 0 ≤ n ∨ d ∣ n then 0 else 1) := by
  rw [Int.tdiv_eq_ediv, Int.sign_eq_one_of_pos hd]
theorem down_b (n d : Int) (hd : d = 16777216 ∨ d = 65536 ∨ d = 256) (h0 : -9223372036854775808 ≤ n) (h1 : n ≤ 9223372036854775807) : clerestoryref3_down.f n d = some (n / d) := by
  have hq := tdiv_lit n d (by omega)
  have hr : n.tmod d = n - d * n.tdiv d := Int.tmod_def n d
  unfold clerestoryref3_down.f
  rw [if_neg (by omega)]
  generalize n.tmod d = r at hr ⊢
  generalize n.tdiv d = q at hq hr ⊢
  rcases hd with rfl | rfl | rfl
  all_goals
    split at hq
    · have e : wrap64 q = q := by unfold wrap64; omega
      rw [if_neg (by omega), e]
      congr 1
      omega
    · have e : wrap64 q = q := by unfold wrap64; omega
      have e2 : wrap64 (q - 1) = q - 1 := by unfold wrap64; omega
      rw [if_pos (by omega), e, e2]
      congr 1
      omega
theorem rest_b (n : Int) : clerestoryref3_Rest.f n 256 = some (n % 256) := by
  have hq := tdiv_lit n 256 (by omega)
  have hr : n.tmod 256 = n - 256 * n.tdiv 256 := Int.tmod_def n 256
  unfold clerestoryref3_Rest.f
  rw [if_neg (by omega)]
  generalize n.tmod 256 = r at hr ⊢
  generalize n.tdiv 256 = q at hq hr ⊢
  split at hq
  · rw [if_neg (by omega)]
    congr 1
    omega
  · have e2 : wrap64 (r + 256) = r + 256 := by unfold wrap64; omega
    rw [if_pos (by omega), e2]
    congr 1
    omega
/-- One of the channels. -/
def chan (a b al : Int) : Int := wrap64 (Int.tdiv (wrap64 ((wrap64 ((wrap64 (a * al)) + (wrap64 (b * (wrap64 (255 - al)))))) + 127)) 255)
theorem prod_le (a b m n : Int) (ha : 0 ≤ a ∧ a ≤ m) (hb : 0 ≤ b ∧ b ≤ n) : 0 ≤ a * b ∧ a * b ≤ m * n :=
  ⟨Int.mul_nonneg ha.1 hb.1, Int.mul_le_mul ha.2 hb.2 hb.1 (by omega)⟩
theorem chan_le (a b al : Int) (ha : 0 ≤ a ∧ a ≤ 255) (hb : 0 ≤ b ∧ b ≤ 255) (hl : 0 ≤ al ∧ al ≤ 255) : 0 ≤ chan a b al ∧ chan a b al ≤ 255 := by
  unfold chan
  have e : wrap64 (255 - al) = 255 - al := by unfold wrap64; omega
  have h1 : 0 ≤ a * al ∧ a * al ≤ 255 * al := ⟨Int.mul_nonneg ha.1 hl.1, Int.mul_le_mul_of_nonneg_right ha.2 hl.1⟩
  have h2 : 0 ≤ b * (255 - al) ∧ b * (255 - al) ≤ 255 * (255 - al) := ⟨Int.mul_nonneg hb.1 (by omega), Int.mul_le_mul_of_nonneg_right hb.2 (by omega)⟩
  rw [e]
  generalize a * al = x at h1 ⊢
  generalize b * (255 - al) = y at h2 ⊢
  have e1 : wrap64 x = x := by unfold wrap64; omega
  have e2 : wrap64 y = y := by unfold wrap64; omega
  have e3 : wrap64 (x + y) = x + y := by unfold wrap64; omega
  have e4 : wrap64 (x + y + 127) = x + y + 127 := by unfold wrap64; omega
  rw [e1, e2, e3, e4, Int.tdiv_eq_ediv_of_nonneg (by omega)]
  unfold wrap64
  omega
theorem shr_at (x : Int) (i : Nat) (hi : i = 8 ∨ i = 16 ∨ i = 24) : shr .i64 x (i : Int) = x / 2 ^ i := by
  unfold shr
  have hm : min ((i : Int).toNat) IntKind.i64.bits = i := by
    simp only [IntKind.bits]
    omega
  rw [hm]
theorem RasterOver : clerestorylaw3_RasterOver.Pure := by
  intro x y n hx hy hn
  have hx' : -9223372036854775808 ≤ x ∧ x ≤ 9223372036854775807 := by simpa [Lit.wf, IntKind.min, IntKind.max, IntKind.signed, IntKind.bits] using hx
  have hy' : -9223372036854775808 ≤ y ∧ y ≤ 9223372036854775807 := by simpa [Lit.wf, IntKind.min, IntKind.max, IntKind.signed, IntKind.bits] using hy
  refine ⟨100, ?_⟩
  have hd : clerestorylaw3_drawn.f 100 = some true := by decide +kernel
  have hp : 0 ≤ mn (mx n 0) 1000 ∧ mn (mx n 0) 1000 ≤ 1000 := by
    unfold mn mx
    repeat' split
    all_goals omega
  unfold clerestorylaw3_RasterOver.f
  rw [hd, Option.bind_some, if_pos rfl]
  have hal : 0 ≤ wrap64 (Int.tdiv (wrap64 (x % 256 * mn (mx n 0) 1000)) 1000) ∧ wrap64 (Int.tdiv (wrap64 (x % 256 * mn (mx n 0) 1000)) 1000) ≤ 255 := by
    have h := prod_le (x % 256) (mn (mx n 0) 1000) 255 1000 (by omega) hp
    generalize x % 256 * mn (mx n 0) 1000 = p at h ⊢
    have e1 : wrap64 p = p := by unfold wrap64; omega
    rw [e1, Int.tdiv_eq_ediv_of_nonneg (by omega)]
    unfold wrap64
    omega
  unfold raster_Over.f clerestoryref3_Over.f raster_part.f
  rw [rest_b, and255]
  simp only [Option.bind_some]
  generalize wrap64 (Int.tdiv (wrap64 (x % 256 * mn (mx n 0) 1000)) 1000) = al at hal ⊢
  have w8 : wrap64 (8 + 8) = 16 := by decide +kernel
  have w16 : wrap64 (16 + 8) = 24 := by decide +kernel
  have w24 : wrap64 (24 + 8) = 32 := by decide +kernel
  have w0 : wrap64 (0 + 1) = 1 := by decide +kernel
  have w1 : wrap64 (1 + 1) = 2 := by decide +kernel
  have w2 : wrap64 (2 + 1) = 3 := by decide +kernel
  have s8 := fun z => shr_at z 8 (by omega)
  have s16 := fun z => shr_at z 16 (by omega)
  have s24 := fun z => shr_at z 24 (by omega)
  have p8 : (2 : Int) ^ 8 = 256 := by decide
  have p16 : (2 : Int) ^ 16 = 65536 := by decide
  have p24 : (2 : Int) ^ 24 = 16777216 := by decide
  simp only [Int.cast_ofNat_Int, p8, p16, p24] at s8 s16 s24
  have d1 := fun z h0 h1 => down_b z 16777216 (by omega) h0 h1
  have d2 := fun z h0 h1 => down_b z 65536 (by omega) h0 h1
  have d3 := fun z h0 h1 => down_b z 256 (by omega) h0 h1
  have c1 := chan_le (x / 16777216 % 256) (y / 16777216 % 256) al (by omega) (by omega) hal
  have c2 := chan_le (x / 65536 % 256) (y / 65536 % 256) al (by omega) (by omega) hal
  have c3 := chan_le (x / 256 % 256) (y / 256 % 256) al (by omega) (by omega) hal
  have left : raster_Over.l0 100 x y al 255 8 = some (255 + chan (x / 256 % 256) (y / 256 % 256) al * 256 + chan (x / 65536 % 256) (y / 65536 % 256) al * 65536 + chan (x / 16777216 % 256) (y / 16777216 % 256) al * 16777216) := by
    rw [raster_Over.l0, if_pos (by omega), if_pos (by omega), w8, s8, s8, and255, and255]
    rw [raster_Over.l0, if_pos (by omega), if_pos (by omega), w16, s16, s16, and255, and255]
    rw [raster_Over.l0, if_pos (by omega), if_pos (by omega), w24, s24, s24, and255, and255]
    rw [raster_Over.l0, if_neg (by omega)]
    have f1 := or_at 255 (chan (x / 256 % 256) (y / 256 % 256) al) 8 (by omega) (by omega) (by omega) c3.1 c3.2
    have f2 := or_at (255 + chan (x / 256 % 256) (y / 256 % 256) al * 256) (chan (x / 65536 % 256) (y / 65536 % 256) al) 16 (by omega) (by omega) (by omega) c2.1 c2.2
    have f3 := or_at (255 + chan (x / 256 % 256) (y / 256 % 256) al * 256 + chan (x / 65536 % 256) (y / 65536 % 256) al * 65536) (chan (x / 16777216 % 256) (y / 16777216 % 256) al) 24 (by omega) (by omega) (by omega) c1.1 c1.2
    simp only [Int.cast_ofNat_Int, p8, p16, p24] at f1 f2 f3
    unfold chan at f1 f2 f3
    unfold chan
    rw [f1, f2, f3]
  have right : clerestoryref3_Over.l0 100 x y al 0 [16777216, 65536, 256] (([16777216, 65536, 256] : List Int).length : Int) 0 = some (wrap64 (wrap64 (wrap64 (wrap64 (0 + wrap64 (chan (x / 16777216 % 256) (y / 16777216 % 256) al * 16777216)) + wrap64 (chan (x / 65536 % 256) (y / 65536 % 256) al * 65536)) + wrap64 (chan (x / 256 % 256) (y / 256 % 256) al * 256)) + 255)) := by
    have r0 : rd [16777216, 65536, 256] 0 = 16777216 := by decide +kernel
    have r1 : rd [16777216, 65536, 256] 1 = 65536 := by decide +kernel
    have r2 : rd [16777216, 65536, 256] 2 = 256 := by decide +kernel
    simp only [List.length_cons, List.length_nil]
    rw [clerestoryref3_Over.l0, if_pos (by omega), if_pos (by omega), if_pos (by simp), r0, d1 x hx'.1 hx'.2, Option.bind_some, rest_b, Option.bind_some, d1 y hy'.1 hy'.2, Option.bind_some, rest_b, Option.bind_some, w0]
    rw [clerestoryref3_Over.l0, if_pos (by omega), if_pos (by omega), if_pos (by simp), r1, d2 x hx'.1 hx'.2, Option.bind_some, rest_b, Option.bind_some, d2 y hy'.1 hy'.2, Option.bind_some, rest_b, Option.bind_some, w1]
    rw [clerestoryref3_Over.l0, if_pos (by omega), if_pos (by omega), if_pos (by simp), r2, d3 x hx'.1 hx'.2, Option.bind_some, rest_b, Option.bind_some, d3 y hy'.1 hy'.2, Option.bind_some, rest_b, Option.bind_some, w2]
    rw [clerestoryref3_Over.l0, if_neg (by omega)]
    rfl
  rw [left, right]
  simp only [Option.bind_some]
  congr 1
  rw [beq_iff_eq]
  generalize chan (x / 16777216 % 256) (y / 16777216 % 256) al = v1 at c1 ⊢
  generalize chan (x / 65536 % 256) (y / 65536 % 256) al = v2 at c2 ⊢
  generalize chan (x / 256 % 256) (y / 256 % 256) al = v3 at c3 ⊢
  unfold wrap64
  omega

end Go.Proofs.Ytaejmgdpnnhpmaa.Pure
