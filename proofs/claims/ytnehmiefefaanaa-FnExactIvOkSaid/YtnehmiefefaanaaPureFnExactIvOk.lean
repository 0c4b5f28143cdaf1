/- The program's IvOk and the reference's return the same for all arguments: the law's function returns true. Conditions: none. -/
import Derived.Test.YtnehmiefefaanaaQx1
import Derived.Test.YtnehmiefefaanaaMath
namespace Go.Proofs.Ytnehmiefefaanaa.PureFnExactIvOk
open Go.RowKit Go.Proofs.Ytnehmiefefaanaa Go.Proofs.Ytnehmiefefaanaa.Q Go.Proofs.YtnehmiefefaanaaW.PrintWords Go.Proofs.YtnehmiefefaanaaW.PrintLast
set_option linter.unusedVariables false
set_option linter.unusedSimpArgs false


theorem FnExactIvOk (a0_0 a0_1 : Int) (_ : -9223372036854775808 ≤ a0_0 ∧ a0_0 ≤ 9223372036854775807) (_ : -9223372036854775808 ≤ a0_1 ∧ a0_1 ≤ 9223372036854775807) :
    laws_FnExactIvOk.f a0_0 a0_1 = some true := by
  simp [laws_FnExactIvOk.f, laws_toInterval.f, spec_IvOk.f, impl_IvOk.f]

end Go.Proofs.Ytnehmiefefaanaa.PureFnExactIvOk
