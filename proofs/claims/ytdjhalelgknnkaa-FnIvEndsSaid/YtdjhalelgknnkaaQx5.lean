-- Contracts of the program's functions, each with the plain function that it computes.
import Derived.Test.YtdjhalelgknnkaaQx0
import Derived.Test.YtdjhalelgknnkaaQx4
namespace Go.Proofs.Ytdjhalelgknnkaa.Q
open Go.RowKit Go.Proofs.YtdjhalelgknnkaaW.PrintWords Go.Proofs.YtdjhalelgknnkaaW.PrintLast Go.Proofs.YtdjhalelgknnkaaW.PrintMore
attribute [local go_sem] max2_int min2_int max_two min_two max_three min_three max_four min_four   -- for this text's walks alone
set_option linter.unusedVariables false
set_option linter.unusedSimpArgs false

/-! ### spec_NumMul: function 77 -/
theorem spec_l1Abs_is {a : Int} (ha : -9223372036854775808 ≤ a) (hb : a ≤ 9223372036854775807) : spec_l1Abs.f a = some (a.natAbs : Int) := by
 unfold spec_l1Abs.f
 by_cases h : a < 0
 ·rw [if_pos h, Math.dist_neg ha h]; congr 1; omega
 ·rw [if_neg h, Math.dist_pos hb h]; congr 1; omega
def spec_NumMul.f (a0 : Int) (a1 : Int) : Option (Int × Int) := if (-9223372036854775808 ≤ a0 ∧ a0 ≤ 9223372036854775807) ∧ (-9223372036854775808 ≤ a1 ∧ a1 ≤ 9223372036854775807) then some (Math.mulV a0 a1) else none
set_option maxHeartbeats 2000000 in
theorem spec_NumMul.calls (a0 : Int) (a1 : Int) (r1 : Int) (r2 : Int) (w : World) (h : spec_NumMul.f a0 a1 = some (r1, r2)) :
  Calls Try.prog 77 #[.int .i64 a0, .int .i64 a1] w fun e w' => e = .returned (.tuple #[.int .i64 r1, .int .i64 r2]) ∧ Drawn0 w w' := by
 unfold spec_NumMul.f at h
 split at h
 case isFalse => exact absurd h (by simp)
 rename_i hb
 obtain ⟨⟨l0, u0⟩, l1, u1⟩ := hb
 have hv := Option.some.inj h
 clear h
 have HX := Aside0.mk (spec_l1Abs_is l0 u0)
 have HY := Aside0.mk (spec_l1Abs_is l1 u1)
 by_cases p0 : a0 = 0
 ·subst p0
  have e : Math.mulV 0 a1 = (0, 0) := by simp [Math.mulV]
  rw [e] at hv
  simp only [Prod.mk.injEq] at hv
  obtain ⟨rfl, rfl⟩ := hv
  clear e
  clear HX HY
  go_enter Try.func77, Try.ntmps77
  go_wp2
  go_ret2
  exact ⟨rfl, by repeat (first | exact Drawn0.refl _ | apply Drawn0.step)⟩
 by_cases p1 : a1 = 0
 ·subst p1
  have e : Math.mulV a0 0 = (0, 0) := by simp [Math.mulV]
  rw [e] at hv
  simp only [Prod.mk.injEq] at hv
  obtain ⟨rfl, rfl⟩ := hv
  clear e
  clear HX HY
  have z0 : (a0 == 0) = false := by simpa using p0
  clear p0
  go_enter Try.func77, Try.ntmps77
  go_wp2
  go_ret2
  exact ⟨rfl, by repeat (first | exact Drawn0.refl _ | apply Drawn0.step)⟩
 have z0 : (a0 == 0) = false := by simpa using p0
 have z1 : (a1 == 0) = false := by simpa using p1
 have P0 := Aside0.mk p0
 have P1 := Aside0.mk p1
 obtain ⟨x, hx⟩ : ∃ x : Int, x = (a0.natAbs : Int) := ⟨_, rfl⟩
 obtain ⟨y, hy⟩ : ∃ y : Int, y = (a1.natAbs : Int) := ⟨_, rfl⟩
 have x0 : 0 < x := by omega
 have x1 : x ≤ 9223372036854775808 := by omega
 have y0 : 0 < y := by omega
 have y1 : y ≤ 9223372036854775808 := by omega
 clear p0 p1
 rw [← hx] at HX
 rw [← hy] at HY
 have HX2 := Aside0.mk hx
 have HY2 := Aside0.mk hy
 clear hx hy
 cases d0 : decide (a0 < 0) <;> cases d1 : decide (a1 < 0)
 ·by_cases q : 9223372036854775807 / y < x
  ·have e : Math.mulV a0 a1 = (0, 1) := Math.mul_pos_over (by rw [d0, d1]; rfl) P1.out (by rw [← HX2.out, ← HY2.out]; exact q)
   rw [e] at hv
   simp only [Prod.mk.injEq] at hv
   obtain ⟨rfl, rfl⟩ := hv
   clear e
   clear P0 P1 HX2 HY2
   go_enter Try.func77, Try.ntmps77
   go_wp2_with fail
   refine (spec_l1Abs.calls a0 x _ HX.out).mono ?_; rintro e w' ⟨rfl, ⟨nx, rfl⟩⟩
   go_wp2_with fail
   refine (spec_l1Abs.calls a1 y _ HY.out).mono ?_; rintro e w' ⟨rfl, ⟨ny, rfl⟩⟩
   go_wp2
   go_ret2
   exact ⟨rfl, by repeat (first | exact Drawn0.refl _ | apply Drawn0.step)⟩
  ·have e : Math.mulV a0 a1 = (wrap64 (a0 * a1), 0) := Math.mul_pos_fit (by rw [d0, d1]; rfl) P1.out (by rw [← HX2.out, ← HY2.out]; exact q)
   rw [e] at hv
   simp only [Prod.mk.injEq] at hv
   obtain ⟨rfl, rfl⟩ := hv
   clear e
   clear P0 P1 HX2 HY2
   go_enter Try.func77, Try.ntmps77
   go_wp2_with fail
   refine (spec_l1Abs.calls a0 x _ HX.out).mono ?_; rintro e w' ⟨rfl, ⟨nx, rfl⟩⟩
   go_wp2_with fail
   refine (spec_l1Abs.calls a1 y _ HY.out).mono ?_; rintro e w' ⟨rfl, ⟨ny, rfl⟩⟩
   go_wp2
   go_ret2
   exact ⟨rfl, by repeat (first | exact Drawn0.refl _ | apply Drawn0.step)⟩
 ·by_cases q : 9223372036854775808 / y < x
  ·have e : Math.mulV a0 a1 = (0, -1) := Math.mul_neg_over (by rw [d0, d1]; rfl) P1.out (by rw [← HX2.out, ← HY2.out]; exact q)
   rw [e] at hv
   simp only [Prod.mk.injEq] at hv
   obtain ⟨rfl, rfl⟩ := hv
   clear e
   clear P0 P1 HX2 HY2
   go_enter Try.func77, Try.ntmps77
   go_wp2_with fail
   refine (spec_l1Abs.calls a0 x _ HX.out).mono ?_; rintro e w' ⟨rfl, ⟨nx, rfl⟩⟩
   go_wp2_with fail
   refine (spec_l1Abs.calls a1 y _ HY.out).mono ?_; rintro e w' ⟨rfl, ⟨ny, rfl⟩⟩
   go_wp2
   go_ret2
   exact ⟨rfl, by repeat (first | exact Drawn0.refl _ | apply Drawn0.step)⟩
  ·have e : Math.mulV a0 a1 = (wrap64 (a0 * a1), 0) := Math.mul_neg_fit (by rw [d0, d1]; rfl) P1.out (by rw [← HX2.out, ← HY2.out]; exact q)
   rw [e] at hv
   simp only [Prod.mk.injEq] at hv
   obtain ⟨rfl, rfl⟩ := hv
   clear e
   clear P0 P1 HX2 HY2
   go_enter Try.func77, Try.ntmps77
   go_wp2_with fail
   refine (spec_l1Abs.calls a0 x _ HX.out).mono ?_; rintro e w' ⟨rfl, ⟨nx, rfl⟩⟩
   go_wp2_with fail
   refine (spec_l1Abs.calls a1 y _ HY.out).mono ?_; rintro e w' ⟨rfl, ⟨ny, rfl⟩⟩
   go_wp2
   go_ret2
   exact ⟨rfl, by repeat (first | exact Drawn0.refl _ | apply Drawn0.step)⟩
 ·by_cases q : 9223372036854775808 / y < x
  ·have e : Math.mulV a0 a1 = (0, -1) := Math.mul_neg_over (by rw [d0, d1]; rfl) P1.out (by rw [← HX2.out, ← HY2.out]; exact q)
   rw [e] at hv
   simp only [Prod.mk.injEq] at hv
   obtain ⟨rfl, rfl⟩ := hv
   clear e
   clear P0 P1 HX2 HY2
   go_enter Try.func77, Try.ntmps77
   go_wp2_with fail
   refine (spec_l1Abs.calls a0 x _ HX.out).mono ?_; rintro e w' ⟨rfl, ⟨nx, rfl⟩⟩
   go_wp2_with fail
   refine (spec_l1Abs.calls a1 y _ HY.out).mono ?_; rintro e w' ⟨rfl, ⟨ny, rfl⟩⟩
   go_wp2
   go_ret2
   exact ⟨rfl, by repeat (first | exact Drawn0.refl _ | apply Drawn0.step)⟩
  ·have e : Math.mulV a0 a1 = (wrap64 (a0 * a1), 0) := Math.mul_neg_fit (by rw [d0, d1]; rfl) P1.out (by rw [← HX2.out, ← HY2.out]; exact q)
   rw [e] at hv
   simp only [Prod.mk.injEq] at hv
   obtain ⟨rfl, rfl⟩ := hv
   clear e
   clear P0 P1 HX2 HY2
   go_enter Try.func77, Try.ntmps77
   go_wp2_with fail
   refine (spec_l1Abs.calls a0 x _ HX.out).mono ?_; rintro e w' ⟨rfl, ⟨nx, rfl⟩⟩
   go_wp2_with fail
   refine (spec_l1Abs.calls a1 y _ HY.out).mono ?_; rintro e w' ⟨rfl, ⟨ny, rfl⟩⟩
   go_wp2
   go_ret2
   exact ⟨rfl, by repeat (first | exact Drawn0.refl _ | apply Drawn0.step)⟩
 ·by_cases q : 9223372036854775807 / y < x
  ·have e : Math.mulV a0 a1 = (0, 1) := Math.mul_pos_over (by rw [d0, d1]; rfl) P1.out (by rw [← HX2.out, ← HY2.out]; exact q)
   rw [e] at hv
   simp only [Prod.mk.injEq] at hv
   obtain ⟨rfl, rfl⟩ := hv
   clear e
   clear P0 P1 HX2 HY2
   go_enter Try.func77, Try.ntmps77
   go_wp2_with fail
   refine (spec_l1Abs.calls a0 x _ HX.out).mono ?_; rintro e w' ⟨rfl, ⟨nx, rfl⟩⟩
   go_wp2_with fail
   refine (spec_l1Abs.calls a1 y _ HY.out).mono ?_; rintro e w' ⟨rfl, ⟨ny, rfl⟩⟩
   go_wp2
   go_ret2
   exact ⟨rfl, by repeat (first | exact Drawn0.refl _ | apply Drawn0.step)⟩
  ·have e : Math.mulV a0 a1 = (wrap64 (a0 * a1), 0) := Math.mul_pos_fit (by rw [d0, d1]; rfl) P1.out (by rw [← HX2.out, ← HY2.out]; exact q)
   rw [e] at hv
   simp only [Prod.mk.injEq] at hv
   obtain ⟨rfl, rfl⟩ := hv
   clear e
   clear P0 P1 HX2 HY2
   go_enter Try.func77, Try.ntmps77
   go_wp2_with fail
   refine (spec_l1Abs.calls a0 x _ HX.out).mono ?_; rintro e w' ⟨rfl, ⟨nx, rfl⟩⟩
   go_wp2_with fail
   refine (spec_l1Abs.calls a1 y _ HY.out).mono ?_; rintro e w' ⟨rfl, ⟨ny, rfl⟩⟩
   go_wp2
   go_ret2
   exact ⟨rfl, by repeat (first | exact Drawn0.refl _ | apply Drawn0.step)⟩

end Go.Proofs.Ytdjhalelgknnkaa.Q
