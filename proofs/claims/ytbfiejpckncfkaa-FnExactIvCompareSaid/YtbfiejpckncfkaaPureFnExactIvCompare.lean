/- The program's IvCompare and the reference's return the same for all arguments: the law's function returns true. Conditions: none. -/
import Derived.Test.YtbfiejpckncfkaaQx2
import Derived.Test.YtbfiejpckncfkaaQx3
import Derived.Test.YtbfiejpckncfkaaQx4
import Derived.Test.YtbfiejpckncfkaaQx5
import Derived.Test.YtbfiejpckncfkaaQx6
import Derived.Test.YtbfiejpckncfkaaQx7
import Derived.Test.YtbfiejpckncfkaaMath
namespace Go.Proofs.Ytbfiejpckncfkaa.PureFnExactIvCompare
open Go.RowKit Go.Proofs.Ytbfiejpckncfkaa Go.Proofs.Ytbfiejpckncfkaa.Q Go.Proofs.YtbfiejpckncfkaaW.PrintWords Go.Proofs.YtbfiejpckncfkaaW.PrintLast
set_option linter.unusedVariables false
set_option linter.unusedSimpArgs false

def b2i (b : Bool) : Int := if b = true then 1 else 0
def allV (op a b c d : Int) : Bool :=
  if op = 13 then decide (b < c) else if op = 14 then decide (b ≤ c) else if op = 15 then decide (a = b ∧ a = c ∧ b = d) else if op = 16 then decide (b < c ∨ d < a) else if op = 17 then decide (d < a) else decide (d ≤ a)
def cmpV (op a b c d : Int) : Int × Int := if (13 ≤ op ∧ op ≤ 18) ∧ a ≤ b ∧ c ≤ d then (b2i (allV op a b c d), 1 - b2i (allV (31 - op) a b c d)) else (0, 0)
theorem six {op : Int} (h : 13 ≤ op ∧ op ≤ 18) : op = 13 ∨ op = 14 ∨ op = 15 ∨ op = 16 ∨ op = 17 ∨ op = 18 := by omega
theorem b2i_in (b : Bool) : 0 ≤ b2i b ∧ b2i b ≤ 1 := by cases b <;> decide
theorem not_both {op a b c d : Int} (h : 13 ≤ op ∧ op ≤ 18) (g1 : a ≤ b) (g2 : c ≤ d) (h1 : allV op a b c d = true) : allV (31 - op) a b c d = false := by
  rcases six h with rfl | rfl | rfl | rfl | rfl | rfl <;> simp [allV] at h1 ⊢ <;> omega
theorem mayHold_is (k : Nat) (hk : 2 ≤ k) {op a b c d : Int} (h : 13 ≤ op ∧ op ≤ 18) (g1 : a ≤ b) (g2 : c ≤ d) : impl_mayHold.f k op a b c d = some (!allV (31 - op) a b c d) := by
  obtain ⟨k, rfl⟩ : ∃ m, k = m + 2 := ⟨k - 2, by omega⟩
  rcases six h with rfl | rfl | rfl | rfl | rfl | rfl
  · have e : decide (a < d) = !decide (d ≤ a) := by rw [Bool.eq_iff_iff]; simp only [Bool.not_eq_true', decide_eq_true_eq, decide_eq_false_iff_not]; omega
    simpa [impl_mayHold.f, allV] using e
  · have e : decide (a ≤ d) = !decide (d < a) := by rw [Bool.eq_iff_iff]; simp only [Bool.not_eq_true', decide_eq_true_eq, decide_eq_false_iff_not]; omega
    simpa [impl_mayHold.f, allV] using e
  · have e : (if a ≤ d then some (decide (c ≤ b)) else some false) = some (!decide (b < c ∨ d < a)) := by
      by_cases h1 : a ≤ d
      · rw [if_pos h1]; congr 1; rw [Bool.eq_iff_iff]; simp only [Bool.not_eq_true', decide_eq_true_eq, decide_eq_false_iff_not]; omega
      · rw [if_neg h1]; congr 1; rw [Bool.eq_iff_iff]; simp only [Bool.false_eq_true, false_iff, Bool.not_eq_true', decide_eq_true_eq, decide_eq_false_iff_not]; omega
    simpa [impl_mayHold.f, allV] using e
  · have e : (if a = b then (if c = d then some (a != c) else some true) else some true) = some (!decide (a = b ∧ a = c ∧ b = d)) := by
      by_cases h1 : a = b
      · rw [if_pos h1]
        by_cases h2 : c = d
        · rw [if_pos h2]; congr 1; rw [Bool.eq_iff_iff]; simp only [Bool.not_eq_true', bne_iff_ne, ne_eq, decide_eq_false_iff_not]; omega
        · rw [if_neg h2]; congr 1; rw [Bool.eq_iff_iff]; simp only [Bool.not_eq_true', true_iff, decide_eq_false_iff_not]; omega
      · rw [if_neg h1]; congr 1; rw [Bool.eq_iff_iff]; simp only [Bool.not_eq_true', true_iff, decide_eq_false_iff_not]; omega
    simpa [impl_mayHold.f, allV] using e
  · have e : decide (c < b) = !decide (b ≤ c) := by rw [Bool.eq_iff_iff]; simp only [Bool.not_eq_true', decide_eq_true_eq, decide_eq_false_iff_not]; omega
    simpa [impl_mayHold.f, impl_turned.f, allV] using e
  · have e : decide (c ≤ b) = !decide (b < c) := by rw [Bool.eq_iff_iff]; simp only [Bool.not_eq_true', decide_eq_true_eq, decide_eq_false_iff_not]; omega
    simpa [impl_mayHold.f, impl_turned.f, allV] using e
theorem opposite_is {op : Int} (h : 13 ≤ op ∧ op ≤ 18) : impl_opposite.f op = some (31 - op) := by
  rcases six h with rfl | rfl | rfl | rfl | rfl | rfl <;> simp [impl_opposite.f]
theorem impl_IvCompare_is (k : Nat) (hk : 5 ≤ k) (op a b c d : Int) : impl_IvCompare.f k op a b c d = some (cmpV op a b c d) := by
  obtain ⟨k, rfl⟩ : ∃ m, k = m + 1 := ⟨k - 1, by omega⟩
  have zero : (¬ ((13 ≤ op ∧ op ≤ 18) ∧ a ≤ b ∧ c ≤ d)) → impl_IvCompare.j0 (k + 1) op true a b c d = some (cmpV op a b c d) := by
    intro h
    simp only [impl_IvCompare.j0]
    rw [if_pos trivial, show cmpV op a b c d = (0, 0) from if_neg h]
  have hw : impl_within.f op 13 18 = some (decide (13 ≤ op ∧ op ≤ 18)) := by
    unfold impl_within.f
    by_cases h : 13 ≤ op <;> simp [h]
  have hi : impl_areIvs.f a b c d = some (decide (a ≤ b ∧ c ≤ d)) := by
    simp only [impl_areIvs.f, impl_IvOk.f, Option.bind_some]
    by_cases h : a ≤ b <;> simp [h]
  unfold impl_IvCompare.f
  rw [hw, hi]
  simp only [Option.bind_some]
  by_cases h : 13 ≤ op ∧ op ≤ 18
  · rw [if_pos (by simpa using h)]
    by_cases g : a ≤ b ∧ c ≤ d
    · rw [show (!decide (a ≤ b ∧ c ≤ d)) = false by simpa using g]
      simp only [impl_IvCompare.j0]
      have h' : 13 ≤ 31 - op ∧ 31 - op ≤ 18 := by omega
      rw [if_neg (by decide), opposite_is h]
      simp only [Option.bind_some]
      rw [mayHold_is k (by omega) h' g.1 g.2, mayHold_is k (by omega) h g.1 g.2, show 31 - (31 - op) = op by omega]
      simp only [Option.bind_some, impl_truthOf.f, impl_one.f]
      rw [show cmpV op a b c d = (b2i (allV op a b c d), 1 - b2i (allV (31 - op) a b c d)) from if_pos ⟨h, g⟩]
      cases e1 : allV op a b c d with
      | true => rw [not_both h g.1 g.2 e1]; rfl
      | false => cases e2 : allV (31 - op) a b c d <;> rfl
    · rw [show (!decide (a ≤ b ∧ c ≤ d)) = true by rw [decide_eq_false g]; rfl]
      exact zero (fun x => g x.2)
  · rw [if_neg (by simpa using h)]
    exact zero (fun x => h x.1)
theorem l7All_is {op a b c d : Int} (h : 13 ≤ op ∧ op ≤ 18) : spec_l7All.f op a b c d = some (allV op a b c d) := by
  rcases six h with rfl | rfl | rfl | rfl | rfl | rfl
  · simp [spec_l7All.f, allV]
  · simp [spec_l7All.f, allV]
  · simp only [spec_l7All.f, allV]
    simp
    by_cases h1 : a = b
    · rw [if_pos h1]; simp [h1]; rw [Bool.eq_iff_iff]; simp
    · rw [if_neg h1]; simp [h1]
  · simp only [spec_l7All.f, allV]
    simp
    by_cases h1 : b < c
    · rw [if_pos h1]; simp [h1]
    · rw [if_neg h1]; simp [h1]
  · simp [spec_l7All.f, allV]
  · simp [spec_l7All.f, allV]
theorem l7Not_is {op : Int} (h : 13 ≤ op ∧ op ≤ 18) : spec_l7Not.f op = some (31 - op) := by
  rcases six h with rfl | rfl | rfl | rfl | rfl | rfl <;> simp [spec_l7Not.f, wrap64, rd]
theorem spec_IvCompare_is (k : Nat) (hk : 5 ≤ k) (op a b c d : Int) : spec_IvCompare.f k op a b c d = some (cmpV op a b c d) := by
  obtain ⟨k, rfl⟩ : ∃ m, k = m + 1 := ⟨k - 1, by omega⟩
  have zero : (¬ ((13 ≤ op ∧ op ≤ 18) ∧ a ≤ b ∧ c ≤ d)) → spec_IvCompare.j0 (k + 1) op true a b c d = some (cmpV op a b c d) := by
    intro h
    simp only [spec_IvCompare.j0]
    rw [if_pos trivial, show cmpV op a b c d = (0, 0) from if_neg h]
  have hw : spec_l7Compares.f op = some (decide (13 ≤ op ∧ op ≤ 18)) := by
    unfold spec_l7Compares.f spec_l1In.f
    by_cases h : op ≥ 13
    · rw [if_pos h]; simp; omega
    · rw [if_neg h]; simp; omega
  unfold spec_IvCompare.f spec_IvOk.f
  rw [hw]
  simp only [Option.bind_some]
  by_cases h : 13 ≤ op ∧ op ≤ 18
  · rw [if_pos (by simpa using h)]
    by_cases g1 : a ≤ b
    · rw [if_pos (by simpa using g1)]
      by_cases g2 : c ≤ d
      · rw [show (!decide (c ≤ d)) = false by simpa using g2]
        simp only [spec_IvCompare.j0]
        have h' : 13 ≤ 31 - op ∧ 31 - op ≤ 18 := by omega
        rw [if_neg (by decide), l7All_is h, l7Not_is h]
        simp only [Option.bind_some]
        rw [l7All_is h']
        have one : ∀ t : Bool, spec_l5One.f t = some (b2i t) := by intro t; cases t <;> rfl
        rw [one]
        simp only [Option.bind_some]
        rw [one]
        simp only [Option.bind_some]
        have := b2i_in (allV (31 - op) a b c d)
        rw [show cmpV op a b c d = (b2i (allV op a b c d), 1 - b2i (allV (31 - op) a b c d)) from if_pos ⟨h, g1, g2⟩, Math.w64_id (by omega) (by omega)]
      · rw [show (!decide (c ≤ d)) = true by simpa using g2]
        exact zero (fun x => g2 x.2.2)
    · rw [if_neg (by simpa using g1)]
      exact zero (fun x => g1 x.2.1)
  · rw [if_neg (by simpa using h)]
    exact zero (fun x => h x.1)

theorem FnExactIvCompare (a0 a1_0 a1_1 a2_0 a2_1 : Int) (b0 : (-9223372036854775808 ≤ a0 ∧ a0 ≤ 9223372036854775807)) (b1_0 : (-9223372036854775808 ≤ a1_0 ∧ a1_0 ≤ 9223372036854775807)) (b1_1 : (-9223372036854775808 ≤ a1_1 ∧ a1_1 ≤ 9223372036854775807)) (b2_0 : (-9223372036854775808 ≤ a2_0 ∧ a2_0 ≤ 9223372036854775807)) (b2_1 : (-9223372036854775808 ≤ a2_1 ∧ a2_1 ≤ 9223372036854775807)) : ∃ k, laws_FnExactIvCompare.f k a0 a1_0 a1_1 a2_0 a2_1 = some true := by
  refine ⟨5, ?_⟩
  simp only [laws_FnExactIvCompare.f, laws_toInterval.f, spec_IvCompare_is 5 (by omega), impl_IvCompare_is 5 (by omega), laws_eqInterval.f, Option.bind_some]
  simp

end Go.Proofs.Ytbfiejpckncfkaa.PureFnExactIvCompare
