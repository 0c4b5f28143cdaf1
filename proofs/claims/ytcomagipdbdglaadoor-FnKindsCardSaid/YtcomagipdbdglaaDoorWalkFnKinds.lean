/- The walk of FnKinds: for every input the law's function returns true and leaves all memory that was there as it was. Conditions: none. -/
import Derived.Test.YtcomagipdbdglaaDoorOpenS
import Derived.Test.YtcomagipdbdglaaDoorQx27
import Derived.Test.YtcomagipdbdglaaDoorPureFnKinds
namespace Go.Proofs.YtcomagipdbdglaaDoor.WalkFnKinds
open Go.RowKit Go.Proofs.YtcomagipdbdglaaDoor Go.Proofs.YtcomagipdbdglaaDoor.Q Go.Proofs.YtcomagipdbdglaaDoorW.PrintWords
set_option linter.unusedVariables false
set_option maxRecDepth 100000 in
theorem walk {H : Type} {enc : TypeId × Value → H} {base : Nat} (v0 : Value) (d0 : DataW H) (p0 : List MemPlace) (W : World) (hTAB : TabW W)
    (o0 : Value.okWide Tryd.prog W .any base 75 v0) (h0 : DataW.Trod enc Tryd.prog W 0 (fun _ => true) true 75 v0 d0 p0)
    : Calls Tryd.prog 11 #[v0] W fun e W' => e = .returned (.bool true) ∧ Below W.heap.size W W' := by
  obtain ⟨A0, c0, l0, rfl, r0, q0, b0⟩ := OpenS.bytes o0 h0
  obtain ⟨k, h⟩ := PureFnKinds.FnKinds l0 b0
  exact (laws_FnKinds.calls k A0 c0 l0 W r0 q0 h hTAB).mono fun e W' ⟨he, hd⟩ => ⟨he, hd⟩
end Go.Proofs.YtcomagipdbdglaaDoor.WalkFnKinds
