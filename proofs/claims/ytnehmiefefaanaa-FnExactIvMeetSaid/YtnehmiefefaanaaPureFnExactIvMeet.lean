/- The program's IvMeet and the reference's return the same for all arguments: the law's function returns true. Conditions: none. -/
import Derived.Test.YtnehmiefefaanaaQx1
import Derived.Test.YtnehmiefefaanaaQx2
import Derived.Test.YtnehmiefefaanaaQx5
import Derived.Test.YtnehmiefefaanaaQx6
import Derived.Test.YtnehmiefefaanaaMath
namespace Go.Proofs.Ytnehmiefefaanaa.PureFnExactIvMeet
open Go.RowKit Go.Proofs.Ytnehmiefefaanaa Go.Proofs.Ytnehmiefefaanaa.Q Go.Proofs.YtnehmiefefaanaaW.PrintWords Go.Proofs.YtnehmiefefaanaaW.PrintLast
set_option linter.unusedVariables false
set_option linter.unusedSimpArgs false

/-- What two intervals have in common. -/
def meetV (a b c d : Int) : Int × Int × Bool := if a ≤ b ∧ c ≤ d ∧ mx a c ≤ mn b d then (mx a c, mn b d, true) else (0, 0, false)
theorem spec_IvMeet_is (a b c d : Int) : spec_IvMeet.f a b c d = some (meetV a b c d) := by
  simp only [spec_IvMeet.f, spec_IvOk.f, meetV, Option.bind_some]
  by_cases h0 : a ≤ b <;> by_cases h1 : c ≤ d <;> by_cases h2 : mx a c ≤ mn b d <;> simp [h0, h1, h2]
theorem impl_IvMeet_is (a b c d : Int) : impl_IvMeet.f a b c d = some (meetV a b c d) := by
  simp only [impl_IvMeet.f, impl_areIvs.f, impl_IvOk.f, meetV, Option.bind_some]
  by_cases h0 : a ≤ b <;> by_cases h1 : c ≤ d <;> by_cases h2 : mx a c ≤ mn b d <;> simp [h0, h1, h2]

theorem FnExactIvMeet (a0_0 a0_1 a1_0 a1_1 : Int) (b0_0 : (-9223372036854775808 ≤ a0_0 ∧ a0_0 ≤ 9223372036854775807)) (b0_1 : (-9223372036854775808 ≤ a0_1 ∧ a0_1 ≤ 9223372036854775807)) (b1_0 : (-9223372036854775808 ≤ a1_0 ∧ a1_0 ≤ 9223372036854775807)) (b1_1 : (-9223372036854775808 ≤ a1_1 ∧ a1_1 ≤ 9223372036854775807)) : laws_FnExactIvMeet.f a0_0 a0_1 a1_0 a1_1 = some true := by
  simp only [laws_FnExactIvMeet.f, laws_toInterval.f, spec_IvMeet_is, impl_IvMeet_is, laws_eqInterval.f, Option.bind_some, if_true, bne_self_eq_false]
  rfl

end Go.Proofs.Ytnehmiefefaanaa.PureFnExactIvMeet
