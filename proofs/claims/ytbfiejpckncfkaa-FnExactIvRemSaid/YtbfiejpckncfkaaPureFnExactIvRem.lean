/- The program's IvRem and the reference's return the same for all arguments: the law's function returns true. Conditions: none. -/
import Derived.Test.YtbfiejpckncfkaaQx0
import Derived.Test.YtbfiejpckncfkaaQx1
import Derived.Test.YtbfiejpckncfkaaQx2
import Derived.Test.YtbfiejpckncfkaaQx3
import Derived.Test.YtbfiejpckncfkaaQx4
import Derived.Test.YtbfiejpckncfkaaQx5
import Derived.Test.YtbfiejpckncfkaaQx6
import Derived.Test.YtbfiejpckncfkaaQx7
import Derived.Test.YtbfiejpckncfkaaQx8
import Derived.Test.YtbfiejpckncfkaaQx9
import Derived.Test.YtbfiejpckncfkaaQx10
import Derived.Test.YtbfiejpckncfkaaQx11
import Derived.Test.YtbfiejpckncfkaaQx12
import Derived.Test.YtbfiejpckncfkaaQx13
import Derived.Test.YtbfiejpckncfkaaQx14
import Derived.Test.YtbfiejpckncfkaaQx15
import Derived.Test.YtbfiejpckncfkaaMath
namespace Go.Proofs.Ytbfiejpckncfkaa.PureFnExactIvRem
open Go.RowKit Go.Proofs.Ytbfiejpckncfkaa Go.Proofs.Ytbfiejpckncfkaa.Q Go.Proofs.YtbfiejpckncfkaaW.PrintWords Go.Proofs.YtbfiejpckncfkaaW.PrintLast
set_option linter.unusedVariables false
set_option linter.unusedSimpArgs false

/-- What two intervals have in common. -/
def meetV (a b c d : Int) : Int × Int × Bool := if a ≤ b ∧ c ≤ d ∧ mx a c ≤ mn b d then (mx a c, mn b d, true) else (0, 0, false)
theorem impl_IvMeet_is (a b c d : Int) : impl_IvMeet.f a b c d = some (meetV a b c d) := by
  simp only [impl_IvMeet.f, impl_areIvs.f, impl_IvOk.f, meetV, Option.bind_some]
  by_cases h0 : a ≤ b <;> by_cases h1 : c ≤ d <;> by_cases h2 : mx a c ≤ mn b d <;> simp [h0, h1, h2]

/-- What is below 0 of a right interval, and what is above. -/
def partsV (c d : Int) : List S24 := (if c < 0 then [⟨c, mn d (-1)⟩] else []) ++ (if 0 < d then [⟨mx c 1, d⟩] else [])
theorem parts_is (c d : Int) : spec_l2Parts.f c d = some (partsV c d) := by
  unfold spec_l2Parts.f partsV
  by_cases h1 : c < 0 <;> by_cases h2 : 0 < d <;> simp [h1, h2]
theorem has_is (c d n : Int) : impl_Interval_has.f c d n = some (decide (c ≤ n ∧ n ≤ d)) := by
  unfold impl_Interval_has.f impl_within.f
  by_cases h1 : c ≤ n <;> by_cases h2 : n ≤ d <;> simp [h1, h2]
theorem divisors_is (k : Nat) (hk : 1 ≤ k) (c d : Int) (hcd : c ≤ d) (hc : -9223372036854775808 ≤ c) (hd : d ≤ 9223372036854775807) : impl_divisors.f k c d = some (partsV c d, if c ≤ 0 ∧ 0 ≤ d then 1 else 0) := by
  obtain ⟨k, rfl⟩ : ∃ m, k = m + 1 := ⟨k - 1, by omega⟩
  have m1 : meetV c d (-9223372036854775808) (-1) = if c < 0 then (c, mn d (-1), true) else (0, 0, false) := by
    have e1 : mx c (-9223372036854775808) = c := by unfold mx; split <;> omega
    unfold meetV
    rw [e1]
    by_cases h : c < 0
    · rw [if_pos ⟨hcd, by omega, by unfold mn; split <;> omega⟩, if_pos h]
    · rw [if_neg (fun x => h (by have := x.2.2; unfold mn at this; split at this <;> omega)), if_neg h]
  have m2 : meetV c d 1 9223372036854775807 = if 0 < d then (mx c 1, d, true) else (0, 0, false) := by
    have e1 : mn d 9223372036854775807 = d := by unfold mn; split <;> omega
    unfold meetV
    rw [e1]
    by_cases h : 0 < d
    · rw [if_pos ⟨hcd, by omega, by unfold mx; split <;> omega⟩, if_pos h]
    · rw [if_neg (fun x => h (by have := x.2.2; unfold mx at this; split at this <;> omega)), if_neg h]
  have j : ∀ l : List S24, l.length ≤ 10 → impl_divisors.j0 (k + 1) l c d = some (l ++ (if 0 < d then [⟨mx c 1, d⟩] else []), if c ≤ 0 ∧ 0 ≤ d then 1 else 0) := by
    intro l hl
    rw [impl_divisors.j0]
    simp only [impl_IvMeet_is, m2, has_is, Option.bind_some]
    by_cases h : 0 < d
    · rw [if_pos h, if_pos h]
      simp only [if_true]
      rw [if_pos (by omega)]
      by_cases g : c ≤ 0 ∧ 0 ≤ d <;> simp [g]
    · rw [if_neg h, if_neg h]
      by_cases g : c ≤ 0 ∧ 0 ≤ d <;> simp [g]
  unfold impl_divisors.f partsV
  simp only [impl_IvMeet_is, m1, Option.bind_some]
  by_cases h : c < 0
  · rw [if_pos h, if_pos h]
    simp only [if_true]
    rw [if_pos (by simp), j _ (by simp)]
    rfl
  · rw [if_neg h, if_neg h]
    simp only [Bool.false_eq_true, if_false]
    rw [j _ (by simp)]

def absV (x : Int) : Int := if x < 0 then IntKind.u64.wrap (-(IntKind.u64.wrap x)) else IntKind.u64.wrap x
def remW (a c : Int) : Int := if c = 0 then 0 else if c = -1 then 0 else Int.tmod a c
theorem abs_is (x : Int) : spec_l1Abs.f x = some (absV x) ∧ impl_distance.f x = some (absV x) := by
  unfold spec_l1Abs.f impl_distance.f absV
  by_cases h : x < 0 <;> simp [h]
theorem rem_is (a c : Int) : spec_NumRem.f a c = some (remW a c) ∧ impl_NumRem.f a c = some (remW a c) := by
  unfold spec_NumRem.f impl_NumRem.f remW
  by_cases h : c = 0 <;> by_cases g : c = -1 <;> simp [h, g]
theorem rem_same (a b c d : Int) (hc : -9223372036854775808 ≤ c) (hd : d ≤ 9223372036854775807) : ∃ v, spec_IvRem.f 8 a b c d = some v ∧ impl_IvRem.f 8 a b c d = some v := by
  by_cases g1 : a ≤ b
  · by_cases g2 : c ≤ d
    · have es : ∀ x, spec_IvRem.j1 7 a b c d 0 0 false x = impl_IvRem.f 8 a b c d ∨ True := fun _ => .inr trivial
      have ei : impl_areIvs.f a b c d = some true := by simp [impl_areIvs.f, impl_IvOk.f, g1, g2]
      have eh : spec_IvHas.f c d 0 = some (decide (c ≤ 0 ∧ 0 ≤ d)) := by
        unfold spec_IvHas.f
        by_cases h1 : c ≤ 0 <;> by_cases h2 : 0 ≤ d <;> simp [h1, h2]
      have e0 : spec_IvRem.f 8 a b c d = spec_IvRem.j1 7 a b c d 0 0 false (if c ≤ 0 ∧ 0 ≤ d then 1 else 0) := by
        unfold spec_IvRem.f
        simp only [spec_IvOk.f, Option.bind_some, g1, g2, decide_true, if_true, Bool.not_true]
        rw [spec_IvRem.j0]
        simp only [Bool.false_eq_true, if_false, eh, Option.bind_some]
        by_cases h : c ≤ 0 ∧ 0 ≤ d <;> simp [h]
      rw [e0]
      unfold impl_IvRem.f
      rw [ei, divisors_is 8 (by omega) c d g2 hc hd]
      rw [spec_IvRem.j1, parts_is]
      simp only [Option.bind_some, if_true]
      by_cases hl : ((partsV c d).length : Int) = 0
      · rw [if_pos hl, if_pos hl]; exact ⟨_, rfl, rfl⟩
      · rw [if_neg hl, if_neg hl]
        have last : ∀ (t : Bool) (x : Int), ∃ v, spec_IvRem.j2 6 t a b c d 0 0 true x = some v ∧ impl_IvRem.j0 8 x t a b c d = some v := by
          intro t x
          rw [spec_IvRem.j2, impl_IvRem.j0]
          cases t
          · simp only [Bool.false_eq_true, if_false, (abs_is _).1, (abs_is _).2, Option.bind_some]
            by_cases h1 : a < 0 <;> by_cases h2 : b > 0 <;> simp [h1, h2]
          · simp only [if_true, (rem_is _ _).1, (rem_is _ _).2, Option.bind_some, impl_one.f]
            exact ⟨_, rfl, rfl⟩
        by_cases hab : a = b
        · rw [if_pos hab, if_pos hab]; exact last _ _
        · rw [if_neg hab, if_neg hab]; exact last _ _
    · refine ⟨(0, 0, false, 0), ?_, ?_⟩
      · simp [spec_IvRem.f, spec_IvRem.j0, spec_IvOk.f, g1, g2]
      · simp [impl_IvRem.f, impl_areIvs.f, impl_IvOk.f, g1, g2]
  · refine ⟨(0, 0, false, 0), ?_, ?_⟩
    · simp [spec_IvRem.f, spec_IvRem.j0, spec_IvOk.f, g1]
    · simp [impl_IvRem.f, impl_areIvs.f, impl_IvOk.f, g1]
theorem FnExactIvRem (a0_0 a0_1 a1_0 a1_1 : Int) (b0_0 : (-9223372036854775808 ≤ a0_0 ∧ a0_0 ≤ 9223372036854775807)) (b0_1 : (-9223372036854775808 ≤ a0_1 ∧ a0_1 ≤ 9223372036854775807)) (b1_0 : (-9223372036854775808 ≤ a1_0 ∧ a1_0 ≤ 9223372036854775807)) (b1_1 : (-9223372036854775808 ≤ a1_1 ∧ a1_1 ≤ 9223372036854775807)) : ∃ k, laws_FnExactIvRem.f k a0_0 a0_1 a1_0 a1_1 = some true := by
  refine ⟨8, ?_⟩
  obtain ⟨v, e1, e2⟩ := rem_same a0_0 a0_1 a1_0 a1_1 b1_0.1 b1_1.2
  simp only [laws_FnExactIvRem.f, laws_toInterval.f, Option.bind_some, e1, e2, laws_eqVal.f, laws_eqInterval.f]
  simp

end Go.Proofs.Ytbfiejpckncfkaa.PureFnExactIvRem
