/- The walk of FnExactReadToken: for every input the law's function returns true and leaves all memory that was there as it was. Conditions: none. -/
import Derived.Test.YtojlcngdcodgbaaDoorOpenW
import Derived.Test.YtojlcngdcodgbaaDoorQx18
import Derived.Test.YtojlcngdcodgbaaDoorPureFnExactReadToken
namespace Go.Proofs.YtojlcngdcodgbaaDoor.WalkFnExactReadToken
open Go.RowKit Go.Proofs.YtojlcngdcodgbaaDoor Go.Proofs.YtojlcngdcodgbaaDoor.Q Go.Proofs.YtojlcngdcodgbaaDoorW.PrintWords
set_option linter.unusedVariables false
set_option maxRecDepth 100000 in
theorem walk {H : Type} {enc : TypeId × Value → H} {base : Nat} (v0 : Value) (d0 : DataW H) (p0 : List MemPlace) (W : World) (hTAB : TabW W)
    (o0 : Value.okWide Tryd.prog W .any base 9 v0) (h0 : DataW.Trod enc Tryd.prog W 0 (fun _ => true) true 9 v0 d0 p0)
    : Calls Tryd.prog 4 #[v0] W fun e W' => e = .returned (.bool true) ∧ Below W.heap.size W W' := by
  obtain ⟨a0, rfl, b0⟩ := OpenW.str o0 h0
  obtain ⟨k, h⟩ := PureFnExactReadToken.FnExactReadToken a0 b0
  exact (laws_FnExactReadToken.calls k a0 W h hTAB).mono fun e W' ⟨he, hd⟩ => ⟨he, hd⟩
end Go.Proofs.YtojlcngdcodgbaaDoor.WalkFnExactReadToken
