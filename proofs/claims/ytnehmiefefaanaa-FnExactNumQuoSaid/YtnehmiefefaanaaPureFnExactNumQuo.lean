/- The program's NumQuo and the reference's return the same for all arguments: the law's function returns true. Conditions: none. -/
import Derived.Test.YtnehmiefefaanaaQx4
import Derived.Test.YtnehmiefefaanaaQx5
import Derived.Test.YtnehmiefefaanaaMath
namespace Go.Proofs.Ytnehmiefefaanaa.PureFnExactNumQuo
open Go.RowKit Go.Proofs.Ytnehmiefefaanaa Go.Proofs.Ytnehmiefefaanaa.Q Go.Proofs.YtnehmiefefaanaaW.PrintWords Go.Proofs.YtnehmiefefaanaaW.PrintLast
set_option linter.unusedVariables false
set_option linter.unusedSimpArgs false

theorem spec_NumSub_is {a b : Int} (ha : -9223372036854775808 ≤ a ∧ a ≤ 9223372036854775807) (hb : -9223372036854775808 ≤ b ∧ b ≤ 9223372036854775807) :
    spec_NumSub.f a b = some (Math.subV a b) := by
  unfold spec_NumSub.f
  rw [if_pos ⟨ha, hb⟩]

theorem spec_NumQuo_is {a b : Int} (ha : -9223372036854775808 ≤ a ∧ a ≤ 9223372036854775807) :
    spec_NumQuo.f a b = some (Math.quoV a b) := by
  unfold spec_NumQuo.f Math.quoV
  by_cases h0 : b = 0
  · rw [if_pos h0, if_pos h0]
  · rw [if_neg h0, if_neg h0]
    by_cases h1 : b = -1
    · subst h1
      rw [if_pos rfl, spec_NumSub_is (by omega) ha]
      simp only [Option.bind_some, Math.subV]
      by_cases h2 : a = -9223372036854775808
      · subst h2; simp
      · rw [if_neg (by omega), if_neg (by omega), if_neg (by omega)]
        simp
    · have hn : ¬ (a = -9223372036854775808 ∧ b = -1) := fun h => h1 h.2
      have hi := Math.tdiv_in ha.1 ha.2 hn
      rw [if_neg h1, if_neg hn, Math.w64_id hi.1 hi.2]

theorem impl_NumQuo_is {a b : Int} (ha : -9223372036854775808 ≤ a ∧ a ≤ 9223372036854775807) :
    impl_NumQuo.f a b = some (Math.quoV a b) := by
  unfold impl_NumQuo.f Math.quoV
  by_cases h0 : b = 0
  · rw [if_pos h0, if_pos h0]
  · rw [if_neg h0, if_neg h0]
    by_cases hn : a = -9223372036854775808 ∧ b = -1
    · rw [if_pos hn.1, if_pos hn.2, if_pos hn]
    · have hi := Math.tdiv_in ha.1 ha.2 hn
      rw [if_neg hn, Math.w64_id hi.1 hi.2]
      by_cases h2 : a = -9223372036854775808
      · rw [if_pos h2, if_neg (fun h => hn ⟨h2, h⟩)]
      · rw [if_neg h2]

theorem FnExactNumQuo (a0 a1 : Int) (b0 : (-9223372036854775808 ≤ a0 ∧ a0 ≤ 9223372036854775807)) (b1 : (-9223372036854775808 ≤ a1 ∧ a1 ≤ 9223372036854775807)) : laws_FnExactNumQuo.f a0 a1 = some true := by
  unfold laws_FnExactNumQuo.f
  rw [spec_NumQuo_is b0, impl_NumQuo_is b0]
  simp only [Option.bind_some, if_true]

end Go.Proofs.Ytnehmiefefaanaa.PureFnExactNumQuo
