/- Plain facts on whole numbers of 64 bits: what sums, differences, products and quotients that may not fit come to. No program stands in this text.
   Conditions: none. -/
import Derived.RowKit
import Derived.OpenShut
import Derived.Laws.MathBits
namespace Go.Proofs.YtojlcngdcodgbaaDoor.Math
open Go.RowKit
set_option linter.unusedSimpArgs false

theorem w64_id {x : Int} (h1 : -9223372036854775808 ≤ x) (h2 : x ≤ 9223372036854775807) : wrap64 x = x := by
  unfold wrap64; omega
theorem uwrap (x : Int) : IntKind.u64.wrap x = x % 18446744073709551616 := by
  simp [IntKind.wrap, IntKind.bits, IntKind.signed]
theorem u64_id {x : Int} (h1 : 0 ≤ x) (h2 : x < 18446744073709551616) : IntKind.u64.wrap x = x := by
  rw [uwrap]; omega

def addV (a b : Int) : Int × Int := if 9223372036854775807 < a + b then (0, 1) else if a + b < -9223372036854775808 then (0, -1) else (a + b, 0)
def subV (a b : Int) : Int × Int := if 9223372036854775807 < a - b then (0, 1) else if a - b < -9223372036854775808 then (0, -1) else (a - b, 0)
def mulV (a b : Int) : Int × Int := if 9223372036854775807 < a * b then (0, 1) else if a * b < -9223372036854775808 then (0, -1) else (a * b, 0)
def quoV (a b : Int) : Int × Int := if b = 0 then (0, 0) else if a = -9223372036854775808 ∧ b = -1 then (0, 1) else (Int.tdiv a b, 0)
def remV (a b : Int) : Int := if b = 0 then 0 else if b = -1 then 0 else Int.tmod a b

/-- The greatest distance from 0 of a quotient. -/
theorem tdiv_le (a b : Int) : (Int.tdiv a b).natAbs ≤ a.natAbs := by
  rw [Int.natAbs_tdiv]; exact Nat.div_le_self _ _

theorem tdiv_in {a b : Int} (h1 : -9223372036854775808 ≤ a) (h2 : a ≤ 9223372036854775807) (h : ¬ (a = -9223372036854775808 ∧ b = -1)) :
    -9223372036854775808 ≤ Int.tdiv a b ∧ Int.tdiv a b ≤ 9223372036854775807 := by
  have hle := tdiv_le a b
  by_cases ha : a = -9223372036854775808
  · have hb : b ≠ -1 := fun e => h ⟨ha, e⟩
    by_cases h0 : b = 0
    · subst h0; simp
    · by_cases h1' : b = 1
      · subst h1'; simp; omega
      · have hb2 : 2 ≤ b.natAbs := by omega
        have hq : (Int.tdiv a b).natAbs ≤ 4611686018427387904 := by
          rw [Int.natAbs_tdiv]
          have : a.natAbs = 9223372036854775808 := by omega
          rw [this]
          exact Nat.div_le_of_le_mul (by omega)
        omega
  · omega

/-- The product of two numbers of 64 bits, as math/bits has it. -/
theorem mul64 (x y : Int) (hx0 : 0 ≤ x) (hx : x < 18446744073709551616) (hy0 : 0 ≤ y) (hy : y < 18446744073709551616) :
    IntKind.u64.wrap ((IntKind.u64.wrap ((IntKind.u64.wrap ((x / 4294967296) * (y / 4294967296))) + ((IntKind.u64.wrap ((IntKind.u64.wrap ((x / 4294967296) * (Go.bits .and .u64 y 4294967295))) + ((IntKind.u64.wrap ((Go.bits .and .u64 x 4294967295) * (Go.bits .and .u64 y 4294967295))) / 4294967296))) / 4294967296))) + ((IntKind.u64.wrap ((Go.bits .and .u64 (IntKind.u64.wrap ((IntKind.u64.wrap ((x / 4294967296) * (Go.bits .and .u64 y 4294967295))) + ((IntKind.u64.wrap ((Go.bits .and .u64 x 4294967295) * (Go.bits .and .u64 y 4294967295))) / 4294967296))) 4294967295) + (IntKind.u64.wrap ((Go.bits .and .u64 x 4294967295) * (y / 4294967296))))) / 4294967296)) = (x * y) / 18446744073709551616 := by
  rw [and_low32 x hx0 hx, and_low32 y hy0 hy]
  have hxd := Int.mul_ediv_add_emod x 4294967296
  have hyd := Int.mul_ediv_add_emod y 4294967296
  have a1 : 0 ≤ x / 4294967296 ∧ x / 4294967296 ≤ 4294967295 := by omega
  have a0 : 0 ≤ x % 4294967296 ∧ x % 4294967296 ≤ 4294967295 := by omega
  have b1 : 0 ≤ y / 4294967296 ∧ y / 4294967296 ≤ 4294967295 := by omega
  have b0 : 0 ≤ y % 4294967296 ∧ y % 4294967296 ≤ 4294967295 := by omega
  generalize x / 4294967296 = x1 at *
  generalize x % 4294967296 = x0 at *
  generalize y / 4294967296 = y1 at *
  generalize y % 4294967296 = y0 at *
  have bnd : ∀ u v : Int, 0 ≤ u ∧ u ≤ 4294967295 → 0 ≤ v ∧ v ≤ 4294967295 → 0 ≤ u * v ∧ u * v ≤ 18446744065119617025 := by
    intro u v hu hv
    refine ⟨Int.mul_nonneg hu.1 hv.1, ?_⟩
    have := Int.mul_le_mul hu.2 hv.2 hv.1 (by omega)
    omega
  have hp := bnd x1 y1 a1 b1
  have hq := bnd x1 y0 a1 b0
  have hr := bnd x0 y0 a0 b0
  have hs := bnd x0 y1 a0 b1
  have hz : x * y = (x1 * y1) * 18446744073709551616 + (x1 * y0 + x0 * y1) * 4294967296 + x0 * y0 := by
    rw [← hxd, ← hyd]; grind
  rw [hz]
  generalize x1 * y1 = p at *
  generalize x1 * y0 = q at *
  generalize x0 * y0 = r at *
  generalize x0 * y1 = s at *
  have e1 : IntKind.u64.wrap r = r := u64_id hr.1 (by omega)
  have e2 : IntKind.u64.wrap q = q := u64_id hq.1 (by omega)
  have e3 : IntKind.u64.wrap p = p := u64_id hp.1 (by omega)
  have e4 : IntKind.u64.wrap s = s := u64_id hs.1 (by omega)
  rw [e1, e2, e3, e4]
  have e5 : IntKind.u64.wrap (q + r / 4294967296) = q + r / 4294967296 := u64_id (by omega) (by omega)
  rw [e5, and_low32 _ (by omega) (by omega)]
  have e6 : IntKind.u64.wrap ((q + r / 4294967296) % 4294967296 + s) = (q + r / 4294967296) % 4294967296 + s := u64_id (by omega) (by omega)
  rw [e6]
  have e7 : IntKind.u64.wrap (p + (q + r / 4294967296) / 4294967296) = p + (q + r / 4294967296) / 4294967296 := u64_id (by omega) (by omega)
  rw [e7]
  rw [u64_id (by omega) (by omega)]
  omega

/-- How far from 0 a number of 64 bits is. -/
theorem dist_neg {a : Int} (h1 : -9223372036854775808 ≤ a) (h : a < 0) : IntKind.u64.wrap (-(IntKind.u64.wrap a)) = -a := by
  rw [uwrap, uwrap]; omega
theorem dist_pos {a : Int} (h2 : a ≤ 9223372036854775807) (h : ¬ a < 0) : IntKind.u64.wrap a = a := by
  rw [uwrap]; omega

/-- A product by the distances of its factors from 0. -/
theorem mul_abs (a b : Int) : (¬ ((decide (a < 0)) != (decide (b < 0))) = true → a * b = (a.natAbs : Int) * (b.natAbs : Int)) ∧ (((decide (a < 0)) != (decide (b < 0))) = true → a * b = -((a.natAbs : Int) * (b.natAbs : Int))) := by
  by_cases h1 : a < 0 <;> by_cases h2 : b < 0
  · have e1 : (a.natAbs : Int) = -a := by omega
    have e2 : (b.natAbs : Int) = -b := by omega
    rw [e1, e2]; simp [h1, h2, Int.neg_mul, Int.mul_neg]
  · have e1 : (a.natAbs : Int) = -a := by omega
    have e2 : (b.natAbs : Int) = b := by omega
    rw [e1, e2]; simp [h1, h2, Int.neg_mul, Int.mul_neg]
  · have e1 : (a.natAbs : Int) = a := by omega
    have e2 : (b.natAbs : Int) = -b := by omega
    rw [e1, e2]; simp [h1, h2, Int.neg_mul, Int.mul_neg]
  · have e1 : (a.natAbs : Int) = a := by omega
    have e2 : (b.natAbs : Int) = b := by omega
    rw [e1, e2]; simp [h1, h2, Int.neg_mul, Int.mul_neg]

theorem mul_neg_over {a b : Int} (hs : ((decide (a < 0)) != (decide (b < 0))) = true) (hb : b ≠ 0) (h : 9223372036854775808 / (b.natAbs : Int) < (a.natAbs : Int)) : mulV a b = (0, -1) := by
  have hn := (mul_abs a b).2 hs
  have hl := (Int.ediv_lt_iff_lt_mul (show (0 : Int) < (b.natAbs : Int) by omega)).1 h
  unfold mulV
  rw [hn, if_neg (by omega), if_pos (by omega)]
theorem mul_neg_fit {a b : Int} (hs : ((decide (a < 0)) != (decide (b < 0))) = true) (hb : b ≠ 0) (h : ¬ 9223372036854775808 / (b.natAbs : Int) < (a.natAbs : Int)) : mulV a b = (wrap64 (a * b), 0) := by
  have hn := (mul_abs a b).2 hs
  have hl : ¬ (9223372036854775808 < (a.natAbs : Int) * (b.natAbs : Int)) := fun g => h ((Int.ediv_lt_iff_lt_mul (show (0 : Int) < (b.natAbs : Int) by omega)).2 g)
  have := Int.mul_nonneg (Int.natCast_nonneg a.natAbs) (Int.natCast_nonneg b.natAbs)
  unfold mulV
  rw [hn, if_neg (by omega), if_neg (by omega), w64_id (by omega) (by omega)]
theorem mul_pos_over {a b : Int} (hs : ((decide (a < 0)) != (decide (b < 0))) = false) (hb : b ≠ 0) (h : 9223372036854775807 / (b.natAbs : Int) < (a.natAbs : Int)) : mulV a b = (0, 1) := by
  have hn := (mul_abs a b).1 (by simp only [hs]; decide)
  have hl := (Int.ediv_lt_iff_lt_mul (show (0 : Int) < (b.natAbs : Int) by omega)).1 h
  unfold mulV
  rw [hn, if_pos (by omega)]
theorem mul_pos_fit {a b : Int} (hs : ((decide (a < 0)) != (decide (b < 0))) = false) (hb : b ≠ 0) (h : ¬ 9223372036854775807 / (b.natAbs : Int) < (a.natAbs : Int)) : mulV a b = (wrap64 (a * b), 0) := by
  have hn := (mul_abs a b).1 (by simp only [hs]; decide)
  have hl : ¬ (9223372036854775807 < (a.natAbs : Int) * (b.natAbs : Int)) := fun g => h ((Int.ediv_lt_iff_lt_mul (show (0 : Int) < (b.natAbs : Int) by omega)).2 g)
  have := Int.mul_nonneg (Int.natCast_nonneg a.natAbs) (Int.natCast_nonneg b.natAbs)
  unfold mulV
  rw [hn, if_neg (by omega), if_neg (by omega), w64_id (by omega) (by omega)]
theorem prod_neg_over {a b hi lo : Int} (hs : ((decide (a < 0)) != (decide (b < 0))) = true) (hz : (a.natAbs : Int) * (b.natAbs : Int) = hi * 18446744073709551616 + lo) (h0 : 0 ≤ lo) (h : 0 < hi ∨ 0 ≤ hi ∧ 9223372036854775808 < lo) : mulV a b = (0, -1) := by
  have hn := (mul_abs a b).2 hs
  unfold mulV
  rw [hn, hz, if_neg (by omega), if_pos (by omega)]
theorem prod_neg_fit {a b lo : Int} (hs : ((decide (a < 0)) != (decide (b < 0))) = true) (hz : (a.natAbs : Int) * (b.natAbs : Int) = lo) (h0 : 0 ≤ lo) (h : lo ≤ 9223372036854775808) : mulV a b = (wrap64 (IntKind.u64.wrap (-lo)), 0) := by
  have hn := (mul_abs a b).2 hs
  have e : wrap64 (IntKind.u64.wrap (-lo)) = -lo := by rw [uwrap]; unfold wrap64; omega
  unfold mulV
  rw [hn, hz, if_neg (by omega), if_neg (by omega), e]
theorem prod_pos_over {a b hi lo : Int} (hs : ((decide (a < 0)) != (decide (b < 0))) = false) (hz : (a.natAbs : Int) * (b.natAbs : Int) = hi * 18446744073709551616 + lo) (h0 : 0 ≤ lo) (h : 0 < hi ∨ 0 ≤ hi ∧ 9223372036854775807 < lo) : mulV a b = (0, 1) := by
  have hn := (mul_abs a b).1 (by simp only [hs]; decide)
  unfold mulV
  rw [hn, hz, if_pos (by omega)]
theorem prod_pos_fit {a b lo : Int} (hs : ((decide (a < 0)) != (decide (b < 0))) = false) (hz : (a.natAbs : Int) * (b.natAbs : Int) = lo) (h0 : 0 ≤ lo) (h : lo ≤ 9223372036854775807) : mulV a b = (lo, 0) := by
  have hn := (mul_abs a b).1 (by simp only [hs]; decide)
  unfold mulV
  rw [hn, hz, if_neg (by omega), if_neg (by omega)]

end Go.Proofs.YtojlcngdcodgbaaDoor.Math
