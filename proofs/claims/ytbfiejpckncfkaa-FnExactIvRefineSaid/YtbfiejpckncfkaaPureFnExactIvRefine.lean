/- The program's IvRefine and the reference's return the same for all arguments: the law's function returns true. Conditions: none. -/
import Derived.Test.YtbfiejpckncfkaaQx2
import Derived.Test.YtbfiejpckncfkaaQx4
import Derived.Test.YtbfiejpckncfkaaQx6
import Derived.Test.YtbfiejpckncfkaaQx8
import Derived.Test.YtbfiejpckncfkaaQx9
import Derived.Test.YtbfiejpckncfkaaQx10
import Derived.Test.YtbfiejpckncfkaaQx11
import Derived.Test.YtbfiejpckncfkaaQx12
import Derived.Test.YtbfiejpckncfkaaMath
namespace Go.Proofs.Ytbfiejpckncfkaa.PureFnExactIvRefine
open Go.RowKit Go.Proofs.Ytbfiejpckncfkaa Go.Proofs.Ytbfiejpckncfkaa.Q Go.Proofs.YtbfiejpckncfkaaW.PrintWords Go.Proofs.YtbfiejpckncfkaaW.PrintLast
set_option linter.unusedVariables false
set_option linter.unusedSimpArgs false

/-- What two intervals have in common. -/
def meetV (a b c d : Int) : Int × Int × Bool := if a ≤ b ∧ c ≤ d ∧ mx a c ≤ mn b d then (mx a c, mn b d, true) else (0, 0, false)
theorem spec_IvMeet_is (a b c d : Int) : spec_IvMeet.f a b c d = some (meetV a b c d) := by
  simp only [spec_IvMeet.f, spec_IvOk.f, meetV, Option.bind_some]
  by_cases h0 : a ≤ b <;> by_cases h1 : c ≤ d <;> by_cases h2 : mx a c ≤ mn b d <;> simp [h0, h1, h2]
theorem impl_IvMeet_is (a b c d : Int) : impl_IvMeet.f a b c d = some (meetV a b c d) := by
  simp only [impl_IvMeet.f, impl_areIvs.f, impl_IvOk.f, meetV, Option.bind_some]
  by_cases h0 : a ≤ b <;> by_cases h1 : c ≤ d <;> by_cases h2 : mx a c ≤ mn b d <;> simp [h0, h1, h2]

def pk (a b : Int) : Int × Int × Bool := if a ≤ b then (a, b, true) else (0, 0, false)
def unV (a b c d : Int) : Int × Int × Bool := if c = d ∧ a = c then (if a = b then (0, 0, false) else (a + 1, b, true)) else if c = d ∧ b = c then (a, b - 1, true) else (a, b, true)
def refV (op a b c d : Int) : Int × Int × Bool :=
  if (13 ≤ op ∧ op ≤ 18) ∧ a ≤ b ∧ c ≤ d then
    (if op = 13 then (if d = -9223372036854775808 then (0, 0, false) else pk a (mn b (d - 1))) else if op = 14 then pk a (mn b d)
    else if op = 17 then (if c = 9223372036854775807 then (0, 0, false) else pk (mx a (c + 1)) b) else if op = 18 then pk (mx a c) b
    else if op = 15 then meetV a b c d else unV a b c d) else (0, 0, false)
theorem refV_good {op a b c d : Int} (h : 13 ≤ op ∧ op ≤ 18) (g1 : a ≤ b) (g2 : c ≤ d) : refV op a b c d = (if op = 13 then (if d = -9223372036854775808 then (0, 0, false) else pk a (mn b (d - 1))) else if op = 14 then pk a (mn b d)
    else if op = 17 then (if c = 9223372036854775807 then (0, 0, false) else pk (mx a (c + 1)) b) else if op = 18 then pk (mx a c) b
    else if op = 15 then meetV a b c d else unV a b c d) := if_pos ⟨h, g1, g2⟩
theorem refV_bad {op a b c d : Int} (h : ¬((13 ≤ op ∧ op ≤ 18) ∧ a ≤ b ∧ c ≤ d)) : refV op a b c d = (0, 0, false) := if_neg h
theorem six' {op : Int} (h : 13 ≤ op ∧ op ≤ 18) : op = 13 ∨ op = 14 ∨ op = 15 ∨ op = 16 ∨ op = 17 ∨ op = 18 := by omega
theorem ok_pk (a b : Int) : ((spec_IvOk.f a b).bind fun t => (if t = true then (some (a, b, true)) else (some (0, 0, false)))) = some (pk a b) := by
  simp only [spec_IvOk.f, pk, Option.bind_some, decide_eq_true_eq]
  split <;> rfl
theorem meet_lo (a b d : Int) (ha : -9223372036854775808 ≤ a) (hab : a ≤ b) (hd : -9223372036854775808 ≤ d) : meetV a b (-9223372036854775808) d = pk a (mn b d) := by
  have e : mx a (-9223372036854775808) = a := by unfold mx; split <;> omega
  unfold meetV pk; rw [e]
  by_cases c : a ≤ mn b d
  · rw [if_pos ⟨hab, hd, c⟩, if_pos c]
  · rw [if_neg (fun h => c h.2.2), if_neg c]
theorem meet_hi (a b c : Int) (hb : b ≤ 9223372036854775807) (hab : a ≤ b) (hc : c ≤ 9223372036854775807) : meetV a b c 9223372036854775807 = pk (mx a c) b := by
  have e : mn b 9223372036854775807 = b := by unfold mn; split <;> omega
  unfold meetV pk; rw [e]
  by_cases g : mx a c ≤ b
  · rw [if_pos ⟨hab, hc, g⟩, if_pos g]
  · rw [if_neg (fun h => g h.2.2), if_neg g]
theorem spec_un (k : Nat) (hk : 5 ≤ k) (a b c d : Int) (ha : -9223372036854775808 ≤ a) (hb : b ≤ 9223372036854775807) (hab : a ≤ b) : spec_IvRefine.j0 k 16 false a b c d = some (unV a b c d) := by
  obtain ⟨k, rfl⟩ : ∃ m, k = m + 5 := ⟨k - 5, by omega⟩
  by_cases h1 : c = d
  · subst h1
    by_cases h2 : a = c
    · subst h2
      by_cases h3 : a = b
      · subst h3; simp [spec_IvRefine.j0, spec_IvRefine.j1, unV]
      · have w : wrap64 (a + 1) = a + 1 := Math.w64_id (by omega) (by omega)
        have hb' : b ≠ a := fun h => h3 h.symm
        simp [spec_IvRefine.j0, spec_IvRefine.j1, spec_IvRefine.j2, spec_IvRefine.j3, spec_IvRefine.j4, spec_IvOk.f, unV, h3, hb', w, show a + 1 ≤ b by omega]
    · by_cases h3 : b = c
      · subst h3
        have w : wrap64 (b - 1) = b - 1 := Math.w64_id (by omega) (by omega)
        simp [spec_IvRefine.j0, spec_IvRefine.j1, spec_IvRefine.j2, spec_IvRefine.j3, spec_IvRefine.j4, spec_IvOk.f, unV, h2, w, show a ≤ b - 1 by omega]
      · by_cases h4 : a = b
        · subst h4; simp [spec_IvRefine.j0, spec_IvRefine.j1, spec_IvRefine.j2, spec_IvRefine.j3, spec_IvRefine.j4, spec_IvOk.f, unV, h2]
        · simp [spec_IvRefine.j0, spec_IvRefine.j1, spec_IvRefine.j2, spec_IvRefine.j3, spec_IvRefine.j4, spec_IvOk.f, unV, h2, h3, h4, hab]
  · simp [spec_IvRefine.j0, spec_IvRefine.j1, spec_IvRefine.j2, spec_IvRefine.j3, spec_IvRefine.j4, spec_IvOk.f, unV, h1, hab]
theorem spec_IvRefine_is (k : Nat) (hk : 6 ≤ k) (op a b c d : Int) (ha : -9223372036854775808 ≤ a) (hb : b ≤ 9223372036854775807) (hc : -9223372036854775808 ≤ c ∧ c ≤ 9223372036854775807) (hd : -9223372036854775808 ≤ d ∧ d ≤ 9223372036854775807) : spec_IvRefine.f k op a b c d = some (refV op a b c d) := by
  obtain ⟨k, rfl⟩ : ∃ m, k = m + 1 := ⟨k - 1, by omega⟩
  have bad : spec_IvRefine.j0 (k + 1) op true a b c d = some (0, 0, false) := by simp [spec_IvRefine.j0]
  unfold spec_IvRefine.f
  simp only [spec_l7Compares.f, spec_l1In.f, spec_IvOk.f, Option.bind_some]
  by_cases h : 13 ≤ op ∧ op ≤ 18
  · have e13 : 13 ≤ op := h.1
    have e18 : op ≤ 18 := h.2
    by_cases g1 : a ≤ b
    · by_cases g2 : c ≤ d
      · rw [refV_good h g1 g2]
        simp only [e13, e18, g1, g2, decide_true, if_true, Bool.not_true, Option.bind_some]
        rcases six' h with rfl | rfl | rfl | rfl | rfl | rfl
        · by_cases m : d = -9223372036854775808
          · simp [spec_IvRefine.j0, m]
          · have w : wrap64 (d - 1) = d - 1 := Math.w64_id (by omega) (by omega)
            simpa [spec_IvRefine.j0, m, w] using ok_pk a (mn b (d - 1))
        · simpa [spec_IvRefine.j0] using ok_pk a (mn b d)
        · simp [spec_IvRefine.j0, spec_IvMeet_is]
        · simpa using spec_un (k + 1) (by omega) a b c d ha hb g1
        · by_cases m : c = 9223372036854775807
          · simp [spec_IvRefine.j0, m]
          · have w : wrap64 (c + 1) = c + 1 := Math.w64_id (by omega) (by omega)
            simpa [spec_IvRefine.j0, m, w] using ok_pk (mx a (c + 1)) b
        · simpa [spec_IvRefine.j0] using ok_pk (mx a c) b
      · rw [refV_bad (fun x => g2 x.2.2)]
        simp [e13, e18, g1, g2, bad]
    · rw [refV_bad (fun x => g1 x.2.1)]
      simp [e13, e18, g1, bad]
  · rw [refV_bad (fun x => h x.1)]
    by_cases e13 : 13 ≤ op
    · have e18 : ¬ op ≤ 18 := fun x => h ⟨e13, x⟩
      simp [e13, e18, bad]
    · simp [e13, bad]
theorem unlike_is (k : Nat) (hk : 1 ≤ k) (a b c d : Int) (ha : -9223372036854775808 ≤ a) (hb : b ≤ 9223372036854775807) (hab : a ≤ b) : impl_unlike.f k a b c d = some (unV a b c d) := by
  obtain ⟨k, rfl⟩ : ∃ m, k = m + 1 := ⟨k - 1, by omega⟩
  by_cases h1 : c = d
  · subst h1
    by_cases h2 : a = c
    · subst h2
      by_cases h3 : a = b
      · subst h3; simp [impl_unlike.f, impl_unlike.j0, unV]
      · have w : wrap64 (a + 1) = a + 1 := Math.w64_id (by omega) (by omega)
        simp [impl_unlike.f, impl_unlike.j0, unV, h3, w]
    · have h2' : c ≠ a := fun h => h2 h.symm
      by_cases h3 : b = c
      · subst h3
        have w : wrap64 (b - 1) = b - 1 := Math.w64_id (by omega) (by omega)
        simp [impl_unlike.f, impl_unlike.j0, unV, h2, h2', w]
      · have h3' : c ≠ b := fun h => h3 h.symm
        simp [impl_unlike.f, impl_unlike.j0, unV, h2, h2', h3, h3']
  · simp [impl_unlike.f, impl_unlike.j0, unV, h1]
theorem impl_IvRefine_is (k : Nat) (hk : 6 ≤ k) (op a b c d : Int) (ha : -9223372036854775808 ≤ a) (hb : b ≤ 9223372036854775807) (hc : -9223372036854775808 ≤ c ∧ c ≤ 9223372036854775807) (hd : -9223372036854775808 ≤ d ∧ d ≤ 9223372036854775807) : impl_IvRefine.f k op a b c d = some (refV op a b c d) := by
  obtain ⟨k, rfl⟩ : ∃ m, k = m + 1 := ⟨k - 1, by omega⟩
  have bad : impl_IvRefine.j0 (k + 1) op true a b c d = some (0, 0, false) := by simp [impl_IvRefine.j0]
  unfold impl_IvRefine.f
  simp only [impl_within.f, impl_areIvs.f, impl_IvOk.f, Option.bind_some]
  by_cases h : 13 ≤ op ∧ op ≤ 18
  · have e13 : 13 ≤ op := h.1
    have e18 : op ≤ 18 := h.2
    by_cases g1 : a ≤ b
    · by_cases g2 : c ≤ d
      · rw [refV_good h g1 g2]
        simp only [e13, e18, g1, g2, decide_true, if_true, Bool.not_true, Option.bind_some]
        rcases six' h with rfl | rfl | rfl | rfl | rfl | rfl
        · by_cases m : d = -9223372036854775808
          · simp [impl_IvRefine.j0, m]
          · have w : wrap64 (d - 1) = d - 1 := Math.w64_id (by omega) (by omega)
            simp [impl_IvRefine.j0, m, w, impl_IvMeet_is, meet_lo a b (d - 1) ha g1 (by omega)]
        · simp [impl_IvRefine.j0, impl_IvMeet_is, meet_lo a b d ha g1 hd.1]
        · simp [impl_IvRefine.j0, impl_IvMeet_is]
        · simp [impl_IvRefine.j0, unlike_is k (by omega) a b c d ha hb g1]
        · by_cases m : c = 9223372036854775807
          · simp [impl_IvRefine.j0, m]
          · have w : wrap64 (c + 1) = c + 1 := Math.w64_id (by omega) (by omega)
            simp [impl_IvRefine.j0, m, w, impl_IvMeet_is, meet_hi a b (c + 1) hb g1 (by omega)]
        · simp [impl_IvRefine.j0, impl_IvMeet_is, meet_hi a b c hb g1 hc.2]
      · rw [refV_bad (fun x => g2 x.2.2)]
        simp [e13, e18, g1, g2, bad]
    · rw [refV_bad (fun x => g1 x.2.1)]
      simp [e13, e18, g1, bad]
  · rw [refV_bad (fun x => h x.1)]
    by_cases e13 : 13 ≤ op
    · have e18 : ¬ op ≤ 18 := fun x => h ⟨e13, x⟩
      simp [e13, e18, bad]
    · simp [e13, bad]

theorem FnExactIvRefine (a0 a1_0 a1_1 a2_0 a2_1 : Int) (b0 : (-9223372036854775808 ≤ a0 ∧ a0 ≤ 9223372036854775807)) (b1_0 : (-9223372036854775808 ≤ a1_0 ∧ a1_0 ≤ 9223372036854775807)) (b1_1 : (-9223372036854775808 ≤ a1_1 ∧ a1_1 ≤ 9223372036854775807)) (b2_0 : (-9223372036854775808 ≤ a2_0 ∧ a2_0 ≤ 9223372036854775807)) (b2_1 : (-9223372036854775808 ≤ a2_1 ∧ a2_1 ≤ 9223372036854775807)) : ∃ k, laws_FnExactIvRefine.f k a0 a1_0 a1_1 a2_0 a2_1 = some true := by
  refine ⟨6, ?_⟩
  simp only [laws_FnExactIvRefine.f, laws_toInterval.f, Option.bind_some, spec_IvRefine_is 6 (by omega) a0 a1_0 a1_1 a2_0 a2_1 b1_0.1 b1_1.2 b2_0 b2_1, impl_IvRefine_is 6 (by omega) a0 a1_0 a1_1 a2_0 a2_1 b1_0.1 b1_1.2 b2_0 b2_1, laws_eqInterval.f]
  simp

end Go.Proofs.Ytbfiejpckncfkaa.PureFnExactIvRefine
