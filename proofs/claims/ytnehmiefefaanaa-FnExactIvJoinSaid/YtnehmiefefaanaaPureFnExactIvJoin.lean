/- The program's IvJoin and the reference's return the same for all arguments: the law's function returns true. Conditions: none. -/
import Derived.Test.YtnehmiefefaanaaQx1
import Derived.Test.YtnehmiefefaanaaQx2
import Derived.Test.YtnehmiefefaanaaQx5
import Derived.Test.YtnehmiefefaanaaQx7
import Derived.Test.YtnehmiefefaanaaQx8
import Derived.Test.YtnehmiefefaanaaMath
namespace Go.Proofs.Ytnehmiefefaanaa.PureFnExactIvJoin
open Go.RowKit Go.Proofs.Ytnehmiefefaanaa Go.Proofs.Ytnehmiefefaanaa.Q Go.Proofs.YtnehmiefefaanaaW.PrintWords Go.Proofs.YtnehmiefefaanaaW.PrintLast
set_option linter.unusedVariables false
set_option linter.unusedSimpArgs false


theorem FnExactIvJoin (a0_0 a0_1 a1_0 a1_1 : Int) (_ : -9223372036854775808 ≤ a0_0 ∧ a0_0 ≤ 9223372036854775807) (_ : -9223372036854775808 ≤ a0_1 ∧ a0_1 ≤ 9223372036854775807)
    (_ : -9223372036854775808 ≤ a1_0 ∧ a1_0 ≤ 9223372036854775807) (_ : -9223372036854775808 ≤ a1_1 ∧ a1_1 ≤ 9223372036854775807) :
    laws_FnExactIvJoin.f a0_0 a0_1 a1_0 a1_1 = some true := by
  simp only [laws_FnExactIvJoin.f, laws_toInterval.f, spec_IvJoin.f, spec_l2Join.f, impl_IvJoin.f, impl_areIvs.f, spec_IvOk.f, impl_IvOk.f, laws_eqInterval.f, Option.bind_some]
  by_cases h0 : a0_0 ≤ a0_1 <;> by_cases h1 : a1_0 ≤ a1_1 <;> simp [h0, h1]

end Go.Proofs.Ytnehmiefefaanaa.PureFnExactIvJoin
