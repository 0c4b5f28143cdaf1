/- The program's IvHas and the reference's return the same for all arguments: the law's function returns true. Conditions: none. -/
import Derived.Test.YtnehmiefefaanaaQx1
import Derived.Test.YtnehmiefefaanaaMath
namespace Go.Proofs.Ytnehmiefefaanaa.PureFnExactIvHas
open Go.RowKit Go.Proofs.Ytnehmiefefaanaa Go.Proofs.Ytnehmiefefaanaa.Q Go.Proofs.YtnehmiefefaanaaW.PrintWords Go.Proofs.YtnehmiefefaanaaW.PrintLast
set_option linter.unusedVariables false
set_option linter.unusedSimpArgs false


theorem FnExactIvHas (a0_0 a0_1 a1 : Int) (_ : -9223372036854775808 ≤ a0_0 ∧ a0_0 ≤ 9223372036854775807) (_ : -9223372036854775808 ≤ a0_1 ∧ a0_1 ≤ 9223372036854775807) (_ : -9223372036854775808 ≤ a1 ∧ a1 ≤ 9223372036854775807) :
    laws_FnExactIvHas.f a0_0 a0_1 a1 = some true := by
  simp only [laws_FnExactIvHas.f, laws_toInterval.f, spec_IvHas.f, impl_IvHas.f, impl_Interval_has.f, impl_within.f, Option.bind_some]
  by_cases h : a0_0 ≤ a1 <;> simp [h]

end Go.Proofs.Ytnehmiefefaanaa.PureFnExactIvHas
