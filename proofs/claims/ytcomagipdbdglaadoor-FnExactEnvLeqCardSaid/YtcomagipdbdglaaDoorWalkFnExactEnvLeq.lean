/- The walk of FnExactEnvLeq: for every input the law's function returns true and leaves all memory that was there as it was. Conditions: none. -/
import Derived.Test.YtcomagipdbdglaaDoorOpenD
import Derived.Test.YtcomagipdbdglaaDoorOpenV
import Derived.Test.YtcomagipdbdglaaDoorQx60
import Derived.Test.YtcomagipdbdglaaDoorPureFnExactEnvLeq
namespace Go.Proofs.YtcomagipdbdglaaDoor.WalkFnExactEnvLeq
open Go.RowKit Go.Proofs.YtcomagipdbdglaaDoor Go.Proofs.YtcomagipdbdglaaDoor.Q Go.Proofs.YtcomagipdbdglaaDoorW.PrintWords
set_option linter.unusedVariables false
set_option maxRecDepth 100000 in
theorem walk {H : Type} {enc : TypeId × Value → H} {base : Nat} (v0 : Value) (d0 : DataW H) (p0 : List MemPlace) (v1 : Value) (d1 : DataW H) (p1 : List MemPlace) (v2 : Value) (d2 : DataW H) (p2 : List MemPlace) (W : World) (hTAB : TabW W)
    (o0 : Value.okWide Tryd.prog W .any base 25 v0) (h0 : DataW.Trod enc Tryd.prog W 0 (fun _ => true) true 25 v0 d0 p0)
    (o1 : Value.okWide Tryd.prog W .any base 36 v1) (h1 : DataW.Trod enc Tryd.prog W 0 (fun _ => true) true 36 v1 d1 p1)
    (o2 : Value.okWide Tryd.prog W .any base 36 v2) (h2 : DataW.Trod enc Tryd.prog W 0 (fun _ => true) true 36 v2 d2 p2)
    : Calls Tryd.prog 6 #[v0, v1, v2] W fun e W' => e = .returned (.bool true) ∧ Below W.heap.size W W' := by
  obtain ⟨A0_0, c0_0, l0_0, A0_1, c0_1, l0_1, A0_2, c0_2, l0_2, rfl, r0_0, q0_0, b0_0, r0_1, q0_1, b0_1, r0_2, q0_2, b0_2⟩ := OpenD.decl o0 h0
  obtain ⟨a1_0, A1_1, c1_1, l1_1, A1_2, c1_2, l1_2, rfl, r1_1, q1_1, b1_1, r1_2, q1_2, b1_2⟩ := OpenV.env o1 h1
  obtain ⟨a2_0, A2_1, c2_1, l2_1, A2_2, c2_2, l2_2, rfl, r2_1, q2_1, b2_1, r2_2, q2_2, b2_2⟩ := OpenV.env o2 h2
  obtain ⟨k, h⟩ := PureFnExactEnvLeq.FnExactEnvLeq l0_0 l0_1 l0_2 a1_0 l1_1 l1_2 a2_0 l2_1 l2_2 b0_0 b0_1 b0_2 b1_1 b1_2 b2_1 b2_2
  exact (laws_FnExactEnvLeq.calls k A0_0 c0_0 l0_0 A0_1 c0_1 l0_1 A0_2 c0_2 l0_2 a1_0 A1_1 c1_1 l1_1 A1_2 c1_2 l1_2 a2_0 A2_1 c2_1 l2_1 A2_2 c2_2 l2_2 W r0_0 q0_0 r0_1 q0_1 r0_2 q0_2 r1_1 q1_1 r1_2 q1_2 r2_1 q2_1 r2_2 q2_2 h hTAB).mono fun e W' ⟨he, hd⟩ => ⟨he, hd⟩
end Go.Proofs.YtcomagipdbdglaaDoor.WalkFnExactEnvLeq
