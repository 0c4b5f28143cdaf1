/- The walk of FnTokenTexts: for every input the law's function returns true and leaves all memory that was there as it was. Conditions: none. -/
import Derived.Test.YtojlcngdcodgbaaDoorOpenS
import Derived.Test.YtojlcngdcodgbaaDoorQx23
import Derived.Test.YtojlcngdcodgbaaDoorPureFnTokenTexts
namespace Go.Proofs.YtojlcngdcodgbaaDoor.WalkFnTokenTexts
open Go.RowKit Go.Proofs.YtojlcngdcodgbaaDoor Go.Proofs.YtojlcngdcodgbaaDoor.Q Go.Proofs.YtojlcngdcodgbaaDoorW.PrintWords
set_option linter.unusedVariables false
set_option maxRecDepth 100000 in
theorem walk {H : Type} {enc : TypeId × Value → H} {base : Nat} (v0 : Value) (d0 : DataW H) (p0 : List MemPlace) (W : World) (hTAB : TabW W)
    (o0 : Value.okWide Tryd.prog W .any base 33 v0) (h0 : DataW.Trod enc Tryd.prog W 0 (fun _ => true) true 33 v0 d0 p0)
    : Calls Tryd.prog 5 #[v0] W fun e W' => e = .returned (.bool true) ∧ Below W.heap.size W W' := by
  obtain ⟨A0, c0, l0, rfl, r0, q0, b0⟩ := OpenS.bytes o0 h0
  obtain ⟨k, h⟩ := PureFnTokenTexts.FnTokenTexts l0 b0
  exact (laws_FnTokenTexts.calls k A0 c0 l0 W r0 q0 h hTAB).mono fun e W' ⟨he, hd⟩ => ⟨he, hd⟩
end Go.Proofs.YtojlcngdcodgbaaDoor.WalkFnTokenTexts
