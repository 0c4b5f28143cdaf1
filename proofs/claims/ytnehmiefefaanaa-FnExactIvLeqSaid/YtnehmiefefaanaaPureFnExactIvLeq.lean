/- The program's IvLeq and the reference's return the same for all arguments: the law's function returns true. Conditions: none. -/
import Derived.Test.YtnehmiefefaanaaQx1
import Derived.Test.YtnehmiefefaanaaQx2
import Derived.Test.YtnehmiefefaanaaQx3
import Derived.Test.YtnehmiefefaanaaMath
namespace Go.Proofs.Ytnehmiefefaanaa.PureFnExactIvLeq
open Go.RowKit Go.Proofs.Ytnehmiefefaanaa Go.Proofs.Ytnehmiefefaanaa.Q Go.Proofs.YtnehmiefefaanaaW.PrintWords Go.Proofs.YtnehmiefefaanaaW.PrintLast
set_option linter.unusedVariables false
set_option linter.unusedSimpArgs false


theorem FnExactIvLeq (a0_0 a0_1 a1_0 a1_1 : Int) (_ : -9223372036854775808 ≤ a0_0 ∧ a0_0 ≤ 9223372036854775807) (_ : -9223372036854775808 ≤ a0_1 ∧ a0_1 ≤ 9223372036854775807)
    (_ : -9223372036854775808 ≤ a1_0 ∧ a1_0 ≤ 9223372036854775807) (_ : -9223372036854775808 ≤ a1_1 ∧ a1_1 ≤ 9223372036854775807) :
    laws_FnExactIvLeq.f a0_0 a0_1 a1_0 a1_1 = some true := by
  simp only [laws_FnExactIvLeq.f, laws_toInterval.f, spec_IvLeq.f, impl_IvLeq.f, impl_areIvs.f, spec_IvOk.f, impl_IvOk.f, Option.bind_some]
  by_cases h0 : a0_0 ≤ a0_1 <;> by_cases h1 : a1_0 ≤ a1_1 <;> by_cases h2 : a1_0 ≤ a0_0 <;> simp [h0, h1, h2]

end Go.Proofs.Ytnehmiefefaanaa.PureFnExactIvLeq
