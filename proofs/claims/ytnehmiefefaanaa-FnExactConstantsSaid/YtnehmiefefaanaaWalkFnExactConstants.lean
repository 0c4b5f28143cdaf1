/- The walk of FnExactConstants: for every input the law's function returns true and leaves all memory that was there as it was. Conditions: none. -/
import Derived.Test.YtnehmiefefaanaaQx1
import Derived.Test.YtnehmiefefaanaaPureFnExactConstants
namespace Go.Proofs.Ytnehmiefefaanaa.WalkFnExactConstants
open Go.RowKit Go.Proofs.Ytnehmiefefaanaa Go.Proofs.Ytnehmiefefaanaa.Q Go.Proofs.YtnehmiefefaanaaW.PrintWords
set_option linter.unusedVariables false
theorem walk (W : World)
    : Calls Try.prog 3 #[] W fun e W' => e = .returned (.bool true) ∧ Below W.heap.size W W' := by
  have h := PureFnExactConstants.FnExactConstants  
  exact (laws_FnExactConstants.calls  W h).mono fun e W' ⟨he, hd⟩ => ⟨he, hd.below⟩
end Go.Proofs.Ytnehmiefefaanaa.WalkFnExactConstants
