-- Contracts of the program's functions, each with the plain function that it computes.
import Derived.Test.YtdjhalelgknnkaaQx0
import Derived.Test.YtdjhalelgknnkaaQx10
import Derived.Test.YtdjhalelgknnkaaQx11
import Derived.Test.YtdjhalelgknnkaaQx25
import Derived.Test.YtdjhalelgknnkaaQx27
namespace Go.Proofs.Ytdjhalelgknnkaa.Q
open Go.RowKit Go.Proofs.YtdjhalelgknnkaaW.PrintWords Go.Proofs.YtdjhalelgknnkaaW.PrintLast Go.Proofs.YtdjhalelgknnkaaW.PrintMore
attribute [local go_sem] max2_int min2_int max_two min_two max_three min_three max_four min_four   -- for this text's walks alone
set_option linter.unusedVariables false
set_option linter.unusedSimpArgs false

/-! ### impl_IvQuo: function 33 -/
def impl_IvQuo.ds (l : List S25) : List (Int × Int) := l.map fun x => (x.f0, x.f1)
def impl_IvQuo.f (a0_0 : Int) (a0_1 : Int) (a1_0 : Int) (a1_1 : Int) : Option (Int × Int × Bool × Int) := if (-9223372036854775808 ≤ a0_0 ∧ a0_0 ≤ 9223372036854775807) ∧ (-9223372036854775808 ≤ a0_1 ∧ a0_1 ≤ 9223372036854775807) ∧ (-9223372036854775808 ≤ a1_0 ∧ a1_0 ≤ 9223372036854775807) ∧ (-9223372036854775808 ≤ a1_1 ∧ a1_1 ≤ 9223372036854775807) then (if a0_0 ≤ a0_1 ∧ a1_0 ≤ a1_1 then ((impl_divisors.f 1 a1_0 a1_1).bind fun q => (if q.1.length ≤ 2 ∧ (∀ i, i < q.1.length → (-9223372036854775808 ≤ ((impl_IvQuo.ds q.1).getD i (0, 0)).1 ∧ ((impl_IvQuo.ds q.1).getD i (0, 0)).1 ≤ 9223372036854775807) ∧ (-9223372036854775808 ≤ ((impl_IvQuo.ds q.1).getD i (0, 0)).2 ∧ ((impl_IvQuo.ds q.1).getD i (0, 0)).2 ≤ 9223372036854775807)) then some (Cor.valC (ByCor.quoS Math.quoV a0_0 a0_1 (impl_IvQuo.ds q.1) q.1.length) q.2) else none)) else some (0, 0, false, 0)) else none
theorem impl_IvQuo.areIvs : ByCor.AreIvs := by
 intro a b c d w
 refine (impl_areIvs.calls a b c d (decide (a ≤ b ∧ c ≤ d)) w ?_).mono fun e w' h => ⟨h.1, (by first | exact h.2 | exact h.2.below)⟩
 simp only [impl_areIvs.f, impl_IvOk.f, Option.bind_some]
 by_cases h1 : a ≤ b <;> by_cases h2 : c ≤ d <;> simp [h1, h2]
theorem impl_IvQuo.num_is {a b : Int} (ha : -9223372036854775808 ≤ a ∧ a ≤ 9223372036854775807) :
  impl_NumQuo.f a b = some (Math.quoV a b) := by
 unfold impl_NumQuo.f Math.quoV
 by_cases h0 : b = 0
 ·rw [if_pos h0, if_pos h0]
 ·rw [if_neg h0, if_neg h0]
  by_cases hn : a = -9223372036854775808 ∧ b = -1
  ·rw [if_pos hn.1, if_pos hn.2, if_pos hn]
  ·have hi := Math.tdiv_in ha.1 ha.2 hn
   rw [if_neg hn, Math.w64_id hi.1 hi.2]
   by_cases h2 : a = -9223372036854775808
   ·rw [if_pos h2, if_neg (fun h => hn ⟨h2, h⟩)]
   ·rw [if_neg h2]
theorem impl_IvQuo.num (x y : Int) (W : World) (hx : -9223372036854775808 ≤ x ∧ x ≤ 9223372036854775807) (hy : -9223372036854775808 ≤ y ∧ y ≤ 9223372036854775807) : Calls Try.prog 40 #[.int .i64 x, .int .i64 y] W fun e w' => e = .returned (.tuple #[.int .i64 (Math.quoV x y).1, .int .i64 (Math.quoV x y).2]) ∧ Drawn0 W w' :=
 impl_NumQuo.calls x y _ _ W (by rw [impl_IvQuo.num_is hx])
theorem impl_IvQuo.enters : ∀ args w, (callFunc 40 args).run Try.prog w = .ok (.enter 40 args) w := by
 intro args w
 first | rfl | (go_simp; done) | (simp [callFunc, go_sem]; done) | (unfold callFunc; go_simp)
theorem impl_IvQuo.divs (c d al : Int) (l : List S25) (h : impl_divisors.f 1 c d = some (l, al)) : ByCor.Divs c d al (impl_IvQuo.ds l) := by
 intro w
 refine (impl_divisors.calls 1 c d l al w h).mono ?_
 rintro e w' ⟨v, rfl, hR, hb⟩
 obtain ⟨A, cp, rfl, hcp, hC⟩ := Kd.R_reads hR
 have hl : (impl_IvQuo.ds l).length = l.length := by simp [impl_IvQuo.ds]
 refine ⟨A, cp, by rw [hl], by rw [hl]; exact hcp, ?_, hb⟩
 intro i hi
 rw [hl] at hi
 obtain ⟨ad, hA, h0, h1⟩ := at_T25 hC (i : Int) (by omega) (by omega)
 have g : (impl_IvQuo.ds l).getD i (0, 0) = ((rd_T25 l (i : Int)).f0, (rd_T25 l (i : Int)).f1) := by
  unfold impl_IvQuo.ds rd_T25
  simp [List.getD_eq_getElem?_getD, hi]
 rw [g]
 simp only [Int.toNat_natCast] at h0 h1
 exact ⟨ad, hA, h0, h1⟩
theorem impl_IvQuo.calls (a0_0 : Int) (a0_1 : Int) (a1_0 : Int) (a1_1 : Int) (r1 : Int) (r2 : Int) (r3 : Bool) (r4 : Int) (w : World) (h : impl_IvQuo.f a0_0 a0_1 a1_0 a1_1 = some (r1, r2, r3, r4)) :
  Calls Try.prog 33 #[.agg #[.int .i64 a0_0, .int .i64 a0_1], .agg #[.int .i64 a1_0, .int .i64 a1_1]] w fun e w' => e = .returned (.agg #[.int .i64 r1, .int .i64 r2, .bool r3, .int .i64 r4]) ∧ Below w.heap.size w w' := by
 unfold impl_IvQuo.f at h
 split at h
 case isFalse => exact absurd h (by simp)
 rename_i hb
 obtain ⟨h0, h1, h2, h3⟩ := hb
 by_cases p : a0_0 ≤ a0_1 ∧ a1_0 ≤ a1_1
 ·rw [if_pos p] at h
  obtain ⟨⟨l, al⟩, hd, h⟩ := Option.bind_eq_some_iff.mp h
  split at h
  case isFalse => exact absurd h (by simp)
  rename_i hq
  have hv := Option.some.inj h
  have hl : (impl_IvQuo.ds l).length = l.length := by simp [impl_IvQuo.ds]
  have := ByCor.ivQuo_ok impl_IvQuo.areIvs Math.quoV impl_IvQuo.enters impl_IvQuo.num a0_0 a0_1 a1_0 a1_1 al (impl_IvQuo.ds l) (impl_IvQuo.divs a1_0 a1_1 al l hd) (by rw [hl]; exact hq.1) h0 h1 (by rw [hl]; exact hq.2) p w
  rw [hl, hv] at this
  exact this
 ·rw [if_neg p] at h
  have hv := Option.some.inj h
  simp only [Prod.mk.injEq] at hv
  obtain ⟨rfl, rfl, rfl, rfl⟩ := hv
  exact ByCor.ivQuo_bad impl_IvQuo.areIvs a0_0 a0_1 a1_0 a1_1 p w

end Go.Proofs.Ytdjhalelgknnkaa.Q
