/- The walk of FnExactTokenText: for every input the law's function returns true and leaves all memory that was there as it was. Conditions: none. -/
import Derived.Test.YtojlcngdcodgbaaDoorOpenE
import Derived.Test.YtojlcngdcodgbaaDoorQx13
import Derived.Test.YtojlcngdcodgbaaDoorPureFnExactTokenText
namespace Go.Proofs.YtojlcngdcodgbaaDoor.WalkFnExactTokenText
open Go.RowKit Go.Proofs.YtojlcngdcodgbaaDoor Go.Proofs.YtojlcngdcodgbaaDoor.Q Go.Proofs.YtojlcngdcodgbaaDoorW.PrintWords
set_option linter.unusedVariables false
set_option maxRecDepth 100000 in
theorem walk {H : Type} {enc : TypeId × Value → H} {base : Nat} (v0 : Value) (d0 : DataW H) (p0 : List MemPlace) (W : World)
    (o0 : Value.okWide Tryd.prog W .any base 22 v0) (h0 : DataW.Trod enc Tryd.prog W 0 (fun _ => true) true 22 v0 d0 p0)
    : Calls Tryd.prog 3 #[v0] W fun e W' => e = .returned (.bool true) ∧ Below W.heap.size W W' := by
  obtain ⟨A0, c0, l0, rfl, r0, q0, b0⟩ := OpenE.entries o0 h0
  obtain ⟨k, h⟩ := PureFnExactTokenText.FnExactTokenText l0 b0
  exact (laws_FnExactTokenText.calls k A0 c0 l0 W r0 q0 h).mono fun e W' ⟨he, hd⟩ => ⟨he, hd⟩
end Go.Proofs.YtojlcngdcodgbaaDoor.WalkFnExactTokenText
