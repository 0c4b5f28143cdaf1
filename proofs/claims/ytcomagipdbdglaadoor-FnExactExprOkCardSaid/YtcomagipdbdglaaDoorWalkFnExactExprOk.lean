/- The walk of FnExactExprOk: for every input the law's function returns true and leaves all memory that was there as it was. Conditions: none. -/
import Derived.Test.YtcomagipdbdglaaDoorOpenD
import Derived.Test.YtcomagipdbdglaaDoorOpenX
import Derived.Test.YtcomagipdbdglaaDoorQx28
import Derived.Test.YtcomagipdbdglaaDoorPureFnExactExprOk
namespace Go.Proofs.YtcomagipdbdglaaDoor.WalkFnExactExprOk
open Go.RowKit Go.Proofs.YtcomagipdbdglaaDoor Go.Proofs.YtcomagipdbdglaaDoor.Q Go.Proofs.YtcomagipdbdglaaDoorW.PrintWords
set_option linter.unusedVariables false
set_option maxRecDepth 100000 in
theorem walk {H : Type} {enc : TypeId × Value → H} {base : Nat} (v0 : Value) (d0 : DataW H) (p0 : List MemPlace) (v1 : Value) (d1 : DataW H) (p1 : List MemPlace) (W : World) (hTAB : TabW W)
    (o0 : Value.okWide Tryd.prog W .any base 25 v0) (h0 : DataW.Trod enc Tryd.prog W 0 (fun _ => true) true 25 v0 d0 p0)
    (o1 : Value.okWide Tryd.prog W .any base 65 v1) (h1 : DataW.Trod enc Tryd.prog W 0 (fun _ => true) true 65 v1 d1 p1)
    : Calls Tryd.prog 8 #[v0, v1] W fun e W' => e = .returned (.bool true) ∧ Below W.heap.size W W' := by
  obtain ⟨A0_0, c0_0, l0_0, A0_1, c0_1, l0_1, A0_2, c0_2, l0_2, rfl, r0_0, q0_0, b0_0, r0_1, q0_1, b0_1, r0_2, q0_2, b0_2⟩ := OpenD.decl o0 h0
  obtain ⟨A1, c1, l1, rfl, r1, q1, b1⟩ := OpenX.toks o1 h1
  obtain ⟨k, h⟩ := PureFnExactExprOk.FnExactExprOk l0_0 l0_1 l0_2 l1 b0_0 b0_1 b0_2 b1
  exact (laws_FnExactExprOk.calls k A0_0 c0_0 l0_0 A0_1 c0_1 l0_1 A0_2 c0_2 l0_2 A1 c1 l1 W r0_0 q0_0 r0_1 q0_1 r0_2 q0_2 r1 q1 h hTAB).mono fun e W' ⟨he, hd⟩ => ⟨he, hd⟩
end Go.Proofs.YtcomagipdbdglaaDoor.WalkFnExactExprOk
