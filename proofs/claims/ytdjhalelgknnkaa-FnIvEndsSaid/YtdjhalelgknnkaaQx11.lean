-- Contracts of the program's functions, each with the plain function that it computes.
import Derived.Test.YtdjhalelgknnkaaQx0
import Derived.Test.YtdjhalelgknnkaaQx10
namespace Go.Proofs.Ytdjhalelgknnkaa.Q
open Go.RowKit Go.Proofs.YtdjhalelgknnkaaW.PrintWords Go.Proofs.YtdjhalelgknnkaaW.PrintLast Go.Proofs.YtdjhalelgknnkaaW.PrintMore
attribute [local go_sem] max2_int min2_int max_two min_two max_three min_three max_four min_four   -- for this text's walks alone
set_option linter.unusedVariables false
set_option linter.unusedSimpArgs false

/-! ### impl_NumMul: function 39 -/
theorem impl_distance_is {a : Int} (ha : -9223372036854775808 ≤ a) (hb : a ≤ 9223372036854775807) : impl_distance.f a = some (a.natAbs : Int) := by
 unfold impl_distance.f
 by_cases h : a < 0
 ·rw [if_pos h, Math.dist_neg ha h]; congr 1; omega
 ·rw [if_neg h, Math.dist_pos hb h]; congr 1; omega
theorem bits_Mul64_is {x y : Int} (hx : 0 ≤ x) (hx2 : x < 18446744073709551616) (hy : 0 ≤ y) (hy2 : y < 18446744073709551616) :
  bits_Mul64.f x y = some (x * y / 18446744073709551616, x * y % 18446744073709551616) := by
 unfold bits_Mul64.f
 rw [Math.mul64 x y hx hx2 hy hy2, Math.uwrap]
def impl_NumMul.f (a0 : Int) (a1 : Int) : Option (Int × Int) := if (-9223372036854775808 ≤ a0 ∧ a0 ≤ 9223372036854775807) ∧ (-9223372036854775808 ≤ a1 ∧ a1 ≤ 9223372036854775807) then some (Math.mulV a0 a1) else none
set_option maxHeartbeats 2000000 in
theorem impl_NumMul.calls (a0 : Int) (a1 : Int) (r1 : Int) (r2 : Int) (w : World) (h : impl_NumMul.f a0 a1 = some (r1, r2)) :
  Calls Try.prog 39 #[.int .i64 a0, .int .i64 a1] w fun e w' => e = .returned (.tuple #[.int .i64 r1, .int .i64 r2]) ∧ Drawn0 w w' := by
 unfold impl_NumMul.f at h
 split at h
 case isFalse => exact absurd h (by simp)
 rename_i hb
 obtain ⟨⟨l0, u0⟩, l1, u1⟩ := hb
 have hv := Option.some.inj h
 clear h
 have HX := Aside0.mk (impl_distance_is l0 u0)
 have HY := Aside0.mk (impl_distance_is l1 u1)
 have HM := Aside0.mk (bits_Mul64_is (x := (a0.natAbs : Int)) (y := (a1.natAbs : Int)) (by omega) (by omega) (by omega) (by omega))
 have hz0 := Int.mul_nonneg (Int.natCast_nonneg a0.natAbs) (Int.natCast_nonneg a1.natAbs)
 obtain ⟨hi, hhi⟩ : ∃ hi : Int, hi = (a0.natAbs : Int) * (a1.natAbs : Int) / 18446744073709551616 := ⟨_, rfl⟩
 obtain ⟨lo, hlo⟩ : ∃ lo : Int, lo = (a0.natAbs : Int) * (a1.natAbs : Int) % 18446744073709551616 := ⟨_, rfl⟩
 have hz : (a0.natAbs : Int) * (a1.natAbs : Int) = hi * 18446744073709551616 + lo := by omega
 rw [← hhi, ← hlo] at HM
 have b0 : 0 ≤ hi := by omega
 have b1 : 0 ≤ lo := by omega
 have b2 : lo < 18446744073709551616 := by omega
 have b3 : hi < 18446744073709551616 := by
  have : (a0.natAbs : Int) * (a1.natAbs : Int) ≤ 9223372036854775808 * 9223372036854775808 := Int.mul_le_mul (by omega) (by omega) (by omega) (by omega)
  omega
 have HZ := Aside0.mk hz
 clear hhi hlo hz0 hz
 obtain ⟨x, hx⟩ : ∃ x : Int, x = (a0.natAbs : Int) := ⟨_, rfl⟩
 obtain ⟨y, hy⟩ : ∃ y : Int, y = (a1.natAbs : Int) := ⟨_, rfl⟩
 rw [← hx] at HX
 rw [← hy] at HY
 rw [← hx, ← hy] at HM
 clear hx hy
 cases d0 : decide (a0 < 0) <;> cases d1 : decide (a1 < 0)
 ·have hs : ((decide (a0 < 0)) != (decide (a1 < 0))) = false := by rw [d0, d1]; rfl
  have HS := Aside0.mk hs
  clear hs
  by_cases q : 0 < hi
  ·have e : Math.mulV a0 a1 = (0, 1) := Math.prod_pos_over HS.out HZ.out b1 (.inl q)
   rw [e] at hv
   simp only [Prod.mk.injEq] at hv
   obtain ⟨rfl, rfl⟩ := hv
   clear e
   clear HZ
   go_enter Try.func39, Try.ntmps39
   go_wp2_with fail
   refine (impl_distance.calls a0 x _ HX.out).mono ?_; rintro e w' ⟨rfl, ⟨nx, rfl⟩⟩
   go_wp2_with fail
   refine (impl_distance.calls a1 y _ HY.out).mono ?_; rintro e w' ⟨rfl, ⟨ny, rfl⟩⟩
   go_wp2_with fail
   refine (bits_Mul64.calls x y hi lo _ HM.out).mono ?_; rintro e w' ⟨rfl, ⟨nm, rfl⟩⟩
   go_wp2
   go_ret2
   exact ⟨rfl, by repeat (first | exact Drawn0.refl _ | apply Drawn0.step)⟩
  ·by_cases q2 : 9223372036854775807 < lo
   ·have e : Math.mulV a0 a1 = (0, 1) := Math.prod_pos_over HS.out HZ.out b1 (.inr ⟨b0, q2⟩)
    rw [e] at hv
    simp only [Prod.mk.injEq] at hv
    obtain ⟨rfl, rfl⟩ := hv
    clear e
    clear HZ
    go_enter Try.func39, Try.ntmps39
    go_wp2_with fail
    refine (impl_distance.calls a0 x _ HX.out).mono ?_; rintro e w' ⟨rfl, ⟨nx, rfl⟩⟩
    go_wp2_with fail
    refine (impl_distance.calls a1 y _ HY.out).mono ?_; rintro e w' ⟨rfl, ⟨ny, rfl⟩⟩
    go_wp2_with fail
    refine (bits_Mul64.calls x y hi lo _ HM.out).mono ?_; rintro e w' ⟨rfl, ⟨nm, rfl⟩⟩
    go_wp2
    go_ret2
    exact ⟨rfl, by repeat (first | exact Drawn0.refl _ | apply Drawn0.step)⟩
   ·have e : Math.mulV a0 a1 = (lo, 0) := Math.prod_pos_fit HS.out (by have := HZ.out; omega) b1 (by omega)
    rw [e] at hv
    simp only [Prod.mk.injEq] at hv
    obtain ⟨rfl, rfl⟩ := hv
    clear e
    clear HZ
    go_enter Try.func39, Try.ntmps39
    go_wp2_with fail
    refine (impl_distance.calls a0 x _ HX.out).mono ?_; rintro e w' ⟨rfl, ⟨nx, rfl⟩⟩
    go_wp2_with fail
    refine (impl_distance.calls a1 y _ HY.out).mono ?_; rintro e w' ⟨rfl, ⟨ny, rfl⟩⟩
    go_wp2_with fail
    refine (bits_Mul64.calls x y hi lo _ HM.out).mono ?_; rintro e w' ⟨rfl, ⟨nm, rfl⟩⟩
    go_wp2
    go_ret2
    exact ⟨rfl, by repeat (first | exact Drawn0.refl _ | apply Drawn0.step)⟩
 ·have hs : ((decide (a0 < 0)) != (decide (a1 < 0))) = true := by rw [d0, d1]; rfl
  have HS := Aside0.mk hs
  clear hs
  by_cases q : 0 < hi
  ·have e : Math.mulV a0 a1 = (0, -1) := Math.prod_neg_over HS.out HZ.out b1 (.inl q)
   rw [e] at hv
   simp only [Prod.mk.injEq] at hv
   obtain ⟨rfl, rfl⟩ := hv
   clear e
   clear HZ
   go_enter Try.func39, Try.ntmps39
   go_wp2_with fail
   refine (impl_distance.calls a0 x _ HX.out).mono ?_; rintro e w' ⟨rfl, ⟨nx, rfl⟩⟩
   go_wp2_with fail
   refine (impl_distance.calls a1 y _ HY.out).mono ?_; rintro e w' ⟨rfl, ⟨ny, rfl⟩⟩
   go_wp2_with fail
   refine (bits_Mul64.calls x y hi lo _ HM.out).mono ?_; rintro e w' ⟨rfl, ⟨nm, rfl⟩⟩
   go_wp2
   go_ret2
   exact ⟨rfl, by repeat (first | exact Drawn0.refl _ | apply Drawn0.step)⟩
  ·by_cases q2 : 9223372036854775808 < lo
   ·have e : Math.mulV a0 a1 = (0, -1) := Math.prod_neg_over HS.out HZ.out b1 (.inr ⟨b0, q2⟩)
    rw [e] at hv
    simp only [Prod.mk.injEq] at hv
    obtain ⟨rfl, rfl⟩ := hv
    clear e
    clear HZ
    go_enter Try.func39, Try.ntmps39
    go_wp2_with fail
    refine (impl_distance.calls a0 x _ HX.out).mono ?_; rintro e w' ⟨rfl, ⟨nx, rfl⟩⟩
    go_wp2_with fail
    refine (impl_distance.calls a1 y _ HY.out).mono ?_; rintro e w' ⟨rfl, ⟨ny, rfl⟩⟩
    go_wp2_with fail
    refine (bits_Mul64.calls x y hi lo _ HM.out).mono ?_; rintro e w' ⟨rfl, ⟨nm, rfl⟩⟩
    go_wp2
    go_ret2
    exact ⟨rfl, by repeat (first | exact Drawn0.refl _ | apply Drawn0.step)⟩
   ·have e : Math.mulV a0 a1 = (wrap64 (IntKind.u64.wrap (-lo)), 0) := Math.prod_neg_fit HS.out (by have := HZ.out; omega) b1 (by omega)
    rw [e] at hv
    simp only [Prod.mk.injEq] at hv
    obtain ⟨rfl, rfl⟩ := hv
    clear e
    clear HZ
    go_enter Try.func39, Try.ntmps39
    go_wp2_with fail
    refine (impl_distance.calls a0 x _ HX.out).mono ?_; rintro e w' ⟨rfl, ⟨nx, rfl⟩⟩
    go_wp2_with fail
    refine (impl_distance.calls a1 y _ HY.out).mono ?_; rintro e w' ⟨rfl, ⟨ny, rfl⟩⟩
    go_wp2_with fail
    refine (bits_Mul64.calls x y hi lo _ HM.out).mono ?_; rintro e w' ⟨rfl, ⟨nm, rfl⟩⟩
    go_wp2
    go_ret2
    exact ⟨rfl, by repeat (first | exact Drawn0.refl _ | apply Drawn0.step)⟩
 ·have hs : ((decide (a0 < 0)) != (decide (a1 < 0))) = true := by rw [d0, d1]; rfl
  have HS := Aside0.mk hs
  clear hs
  by_cases q : 0 < hi
  ·have e : Math.mulV a0 a1 = (0, -1) := Math.prod_neg_over HS.out HZ.out b1 (.inl q)
   rw [e] at hv
   simp only [Prod.mk.injEq] at hv
   obtain ⟨rfl, rfl⟩ := hv
   clear e
   clear HZ
   go_enter Try.func39, Try.ntmps39
   go_wp2_with fail
   refine (impl_distance.calls a0 x _ HX.out).mono ?_; rintro e w' ⟨rfl, ⟨nx, rfl⟩⟩
   go_wp2_with fail
   refine (impl_distance.calls a1 y _ HY.out).mono ?_; rintro e w' ⟨rfl, ⟨ny, rfl⟩⟩
   go_wp2_with fail
   refine (bits_Mul64.calls x y hi lo _ HM.out).mono ?_; rintro e w' ⟨rfl, ⟨nm, rfl⟩⟩
   go_wp2
   go_ret2
   exact ⟨rfl, by repeat (first | exact Drawn0.refl _ | apply Drawn0.step)⟩
  ·by_cases q2 : 9223372036854775808 < lo
   ·have e : Math.mulV a0 a1 = (0, -1) := Math.prod_neg_over HS.out HZ.out b1 (.inr ⟨b0, q2⟩)
    rw [e] at hv
    simp only [Prod.mk.injEq] at hv
    obtain ⟨rfl, rfl⟩ := hv
    clear e
    clear HZ
    go_enter Try.func39, Try.ntmps39
    go_wp2_with fail
    refine (impl_distance.calls a0 x _ HX.out).mono ?_; rintro e w' ⟨rfl, ⟨nx, rfl⟩⟩
    go_wp2_with fail
    refine (impl_distance.calls a1 y _ HY.out).mono ?_; rintro e w' ⟨rfl, ⟨ny, rfl⟩⟩
    go_wp2_with fail
    refine (bits_Mul64.calls x y hi lo _ HM.out).mono ?_; rintro e w' ⟨rfl, ⟨nm, rfl⟩⟩
    go_wp2
    go_ret2
    exact ⟨rfl, by repeat (first | exact Drawn0.refl _ | apply Drawn0.step)⟩
   ·have e : Math.mulV a0 a1 = (wrap64 (IntKind.u64.wrap (-lo)), 0) := Math.prod_neg_fit HS.out (by have := HZ.out; omega) b1 (by omega)
    rw [e] at hv
    simp only [Prod.mk.injEq] at hv
    obtain ⟨rfl, rfl⟩ := hv
    clear e
    clear HZ
    go_enter Try.func39, Try.ntmps39
    go_wp2_with fail
    refine (impl_distance.calls a0 x _ HX.out).mono ?_; rintro e w' ⟨rfl, ⟨nx, rfl⟩⟩
    go_wp2_with fail
    refine (impl_distance.calls a1 y _ HY.out).mono ?_; rintro e w' ⟨rfl, ⟨ny, rfl⟩⟩
    go_wp2_with fail
    refine (bits_Mul64.calls x y hi lo _ HM.out).mono ?_; rintro e w' ⟨rfl, ⟨nm, rfl⟩⟩
    go_wp2
    go_ret2
    exact ⟨rfl, by repeat (first | exact Drawn0.refl _ | apply Drawn0.step)⟩
 ·have hs : ((decide (a0 < 0)) != (decide (a1 < 0))) = false := by rw [d0, d1]; rfl
  have HS := Aside0.mk hs
  clear hs
  by_cases q : 0 < hi
  ·have e : Math.mulV a0 a1 = (0, 1) := Math.prod_pos_over HS.out HZ.out b1 (.inl q)
   rw [e] at hv
   simp only [Prod.mk.injEq] at hv
   obtain ⟨rfl, rfl⟩ := hv
   clear e
   clear HZ
   go_enter Try.func39, Try.ntmps39
   go_wp2_with fail
   refine (impl_distance.calls a0 x _ HX.out).mono ?_; rintro e w' ⟨rfl, ⟨nx, rfl⟩⟩
   go_wp2_with fail
   refine (impl_distance.calls a1 y _ HY.out).mono ?_; rintro e w' ⟨rfl, ⟨ny, rfl⟩⟩
   go_wp2_with fail
   refine (bits_Mul64.calls x y hi lo _ HM.out).mono ?_; rintro e w' ⟨rfl, ⟨nm, rfl⟩⟩
   go_wp2
   go_ret2
   exact ⟨rfl, by repeat (first | exact Drawn0.refl _ | apply Drawn0.step)⟩
  ·by_cases q2 : 9223372036854775807 < lo
   ·have e : Math.mulV a0 a1 = (0, 1) := Math.prod_pos_over HS.out HZ.out b1 (.inr ⟨b0, q2⟩)
    rw [e] at hv
    simp only [Prod.mk.injEq] at hv
    obtain ⟨rfl, rfl⟩ := hv
    clear e
    clear HZ
    go_enter Try.func39, Try.ntmps39
    go_wp2_with fail
    refine (impl_distance.calls a0 x _ HX.out).mono ?_; rintro e w' ⟨rfl, ⟨nx, rfl⟩⟩
    go_wp2_with fail
    refine (impl_distance.calls a1 y _ HY.out).mono ?_; rintro e w' ⟨rfl, ⟨ny, rfl⟩⟩
    go_wp2_with fail
    refine (bits_Mul64.calls x y hi lo _ HM.out).mono ?_; rintro e w' ⟨rfl, ⟨nm, rfl⟩⟩
    go_wp2
    go_ret2
    exact ⟨rfl, by repeat (first | exact Drawn0.refl _ | apply Drawn0.step)⟩
   ·have e : Math.mulV a0 a1 = (lo, 0) := Math.prod_pos_fit HS.out (by have := HZ.out; omega) b1 (by omega)
    rw [e] at hv
    simp only [Prod.mk.injEq] at hv
    obtain ⟨rfl, rfl⟩ := hv
    clear e
    clear HZ
    go_enter Try.func39, Try.ntmps39
    go_wp2_with fail
    refine (impl_distance.calls a0 x _ HX.out).mono ?_; rintro e w' ⟨rfl, ⟨nx, rfl⟩⟩
    go_wp2_with fail
    refine (impl_distance.calls a1 y _ HY.out).mono ?_; rintro e w' ⟨rfl, ⟨ny, rfl⟩⟩
    go_wp2_with fail
    refine (bits_Mul64.calls x y hi lo _ HM.out).mono ?_; rintro e w' ⟨rfl, ⟨nm, rfl⟩⟩
    go_wp2
    go_ret2
    exact ⟨rfl, by repeat (first | exact Drawn0.refl _ | apply Drawn0.step)⟩

end Go.Proofs.Ytdjhalelgknnkaa.Q
