/- The walk of FnExactStoreNew: for every input the law's function returns true and leaves all memory that was there as it was. Conditions: none. -/
import Derived.Test.YtcomagipdbdglaaDoorOpenD
import Derived.Test.YtcomagipdbdglaaDoorQx44
import Derived.Test.YtcomagipdbdglaaDoorPureFnExactStoreNew
namespace Go.Proofs.YtcomagipdbdglaaDoor.WalkFnExactStoreNew
open Go.RowKit Go.Proofs.YtcomagipdbdglaaDoor Go.Proofs.YtcomagipdbdglaaDoor.Q Go.Proofs.YtcomagipdbdglaaDoorW.PrintWords
set_option linter.unusedVariables false
set_option maxRecDepth 100000 in
theorem walk {H : Type} {enc : TypeId × Value → H} {base : Nat} (v0 : Value) (d0 : DataW H) (p0 : List MemPlace) (W : World) (hTAB : TabW W)
    (o0 : Value.okWide Tryd.prog W .any base 25 v0) (h0 : DataW.Trod enc Tryd.prog W 0 (fun _ => true) true 25 v0 d0 p0)
    : Calls Tryd.prog 9 #[v0] W fun e W' => e = .returned (.bool true) ∧ Below W.heap.size W W' := by
  obtain ⟨A0_0, c0_0, l0_0, A0_1, c0_1, l0_1, A0_2, c0_2, l0_2, rfl, r0_0, q0_0, b0_0, r0_1, q0_1, b0_1, r0_2, q0_2, b0_2⟩ := OpenD.decl o0 h0
  obtain ⟨k, h⟩ := PureFnExactStoreNew.FnExactStoreNew l0_0 l0_1 l0_2 b0_0 b0_1 b0_2
  exact (laws_FnExactStoreNew.calls k A0_0 c0_0 l0_0 A0_1 c0_1 l0_1 A0_2 c0_2 l0_2 W r0_0 q0_0 r0_1 q0_1 r0_2 q0_2 h hTAB).mono fun e W' ⟨he, hd⟩ => ⟨he, hd⟩
end Go.Proofs.YtcomagipdbdglaaDoor.WalkFnExactStoreNew
