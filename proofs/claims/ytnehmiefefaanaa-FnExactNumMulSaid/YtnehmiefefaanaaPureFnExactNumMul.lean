/- The program's NumMul and the reference's return the same for all arguments: the law's function returns true. Conditions: none. -/
import Derived.Test.YtnehmiefefaanaaQx9
import Derived.Test.YtnehmiefefaanaaQx10
import Derived.Test.YtnehmiefefaanaaMath
namespace Go.Proofs.Ytnehmiefefaanaa.PureFnExactNumMul
open Go.RowKit Go.Proofs.Ytnehmiefefaanaa Go.Proofs.Ytnehmiefefaanaa.Q Go.Proofs.YtnehmiefefaanaaW.PrintWords Go.Proofs.YtnehmiefefaanaaW.PrintLast
set_option linter.unusedVariables false
set_option linter.unusedSimpArgs false

theorem spec_NumMul_is {a b : Int} (ha : -9223372036854775808 ≤ a ∧ a ≤ 9223372036854775807) (hb : -9223372036854775808 ≤ b ∧ b ≤ 9223372036854775807) :
    spec_NumMul.f a b = some (Math.mulV a b) := by
  unfold spec_NumMul.f
  rw [if_pos ⟨ha, hb⟩]

theorem impl_NumMul_is {a b : Int} (ha : -9223372036854775808 ≤ a ∧ a ≤ 9223372036854775807) (hb : -9223372036854775808 ≤ b ∧ b ≤ 9223372036854775807) :
    impl_NumMul.f a b = some (Math.mulV a b) := by
  unfold impl_NumMul.f
  rw [if_pos ⟨ha, hb⟩]

theorem FnExactNumMul (a0 a1 : Int) (b0 : (-9223372036854775808 ≤ a0 ∧ a0 ≤ 9223372036854775807)) (b1 : (-9223372036854775808 ≤ a1 ∧ a1 ≤ 9223372036854775807)) : laws_FnExactNumMul.f a0 a1 = some true := by
  unfold laws_FnExactNumMul.f
  rw [spec_NumMul_is b0 b1, impl_NumMul_is b0 b1]
  simp only [Option.bind_some, if_true]

end Go.Proofs.Ytnehmiefefaanaa.PureFnExactNumMul
