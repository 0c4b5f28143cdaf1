/- The program's NumSub and the reference's return the same for all arguments: the law's function returns true. Conditions: none. -/
import Derived.Test.YtnehmiefefaanaaQx4
import Derived.Test.YtnehmiefefaanaaMath
namespace Go.Proofs.Ytnehmiefefaanaa.PureFnExactNumSub
open Go.RowKit Go.Proofs.Ytnehmiefefaanaa Go.Proofs.Ytnehmiefefaanaa.Q Go.Proofs.YtnehmiefefaanaaW.PrintWords Go.Proofs.YtnehmiefefaanaaW.PrintLast
set_option linter.unusedVariables false
set_option linter.unusedSimpArgs false

theorem spec_NumSub_is {a b : Int} (ha : -9223372036854775808 ≤ a ∧ a ≤ 9223372036854775807) (hb : -9223372036854775808 ≤ b ∧ b ≤ 9223372036854775807) :
    spec_NumSub.f a b = some (Math.subV a b) := by
  unfold spec_NumSub.f
  rw [if_pos ⟨ha, hb⟩]

theorem impl_NumSub_is {a b : Int} (ha : -9223372036854775808 ≤ a ∧ a ≤ 9223372036854775807) (hb : -9223372036854775808 ≤ b ∧ b ≤ 9223372036854775807) :
    impl_NumSub.f a b = some (Math.subV a b) := by
  unfold impl_NumSub.f
  rw [if_pos ⟨ha, hb⟩]

theorem FnExactNumSub (a0 a1 : Int) (b0 : (-9223372036854775808 ≤ a0 ∧ a0 ≤ 9223372036854775807)) (b1 : (-9223372036854775808 ≤ a1 ∧ a1 ≤ 9223372036854775807)) : laws_FnExactNumSub.f a0 a1 = some true := by
  unfold laws_FnExactNumSub.f
  rw [spec_NumSub_is b0 b1, impl_NumSub_is b0 b1]
  simp only [Option.bind_some, if_true]

end Go.Proofs.Ytnehmiefefaanaa.PureFnExactNumSub
