/- The program's NumRem and the reference's return the same for all arguments: the law's function returns true. Conditions: none. -/
import Derived.Test.YtnehmiefefaanaaQx1
import Derived.Test.YtnehmiefefaanaaMath
namespace Go.Proofs.Ytnehmiefefaanaa.PureFnExactNumRem
open Go.RowKit Go.Proofs.Ytnehmiefefaanaa Go.Proofs.Ytnehmiefefaanaa.Q Go.Proofs.YtnehmiefefaanaaW.PrintWords Go.Proofs.YtnehmiefefaanaaW.PrintLast
set_option linter.unusedVariables false
set_option linter.unusedSimpArgs false

theorem spec_NumRem_is (a b : Int) : spec_NumRem.f a b = some (Math.remV a b) := by
  unfold spec_NumRem.f Math.remV
  split
  · rfl
  · split <;> rfl

theorem impl_NumRem_is (a b : Int) : impl_NumRem.f a b = some (Math.remV a b) := by
  unfold impl_NumRem.f Math.remV
  split
  · rfl
  · split <;> rfl

theorem FnExactNumRem (a0 a1 : Int) (b0 : (-9223372036854775808 ≤ a0 ∧ a0 ≤ 9223372036854775807)) (b1 : (-9223372036854775808 ≤ a1 ∧ a1 ≤ 9223372036854775807)) : laws_FnExactNumRem.f a0 a1 = some true := by
  unfold laws_FnExactNumRem.f
  rw [spec_NumRem_is _ _, impl_NumRem_is _ _]
  simp only [Option.bind_some, if_true]

end Go.Proofs.Ytnehmiefefaanaa.PureFnExactNumRem
