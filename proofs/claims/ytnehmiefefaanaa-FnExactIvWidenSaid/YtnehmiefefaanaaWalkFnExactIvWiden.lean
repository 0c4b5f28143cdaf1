/- The walk of FnExactIvWiden: for every input the law's function returns true and leaves all memory that was there as it was. Conditions: none. -/
import Derived.Test.YtnehmiefefaanaaOpen
import Derived.Test.YtnehmiefefaanaaOpenS
import Derived.Test.YtnehmiefefaanaaQx8
import Derived.Test.YtnehmiefefaanaaPureFnExactIvWiden
namespace Go.Proofs.Ytnehmiefefaanaa.WalkFnExactIvWiden
open Go.RowKit Go.Proofs.Ytnehmiefefaanaa Go.Proofs.Ytnehmiefefaanaa.Q Go.Proofs.YtnehmiefefaanaaW.PrintWords
set_option linter.unusedVariables false
theorem walk {H : Type} {enc : TypeId × Value → H} {base : Nat} (v0 : Value) (d0 : DataW H) (p0 : List MemPlace) (v1 : Value) (d1 : DataW H) (p1 : List MemPlace) (v2 : Value) (d2 : DataW H) (p2 : List MemPlace) (W : World)
    (o0 : Value.okWide Try.prog W .any base 24 v0) (h0 : DataW.Trod enc Try.prog W 0 (fun _ => true) true 24 v0 d0 p0)
    (o1 : Value.okWide Try.prog W .any base 24 v1) (h1 : DataW.Trod enc Try.prog W 0 (fun _ => true) true 24 v1 d1 p1)
    (o2 : Value.okWide Try.prog W .any base 40 v2) (h2 : DataW.Trod enc Try.prog W 0 (fun _ => true) true 40 v2 d2 p2)
    : Calls Try.prog 14 #[v0, v1, v2] W fun e W' => e = .returned (.bool true) ∧ Below W.heap.size W W' := by
  obtain ⟨a0_0, a0_1, rfl, b0_0, b0_1⟩ := Open.iv o0 h0
  obtain ⟨a1_0, a1_1, rfl, b1_0, b1_1⟩ := Open.iv o1 h1
  obtain ⟨A2, c2, l2, rfl, r2, q2, b2⟩ := OpenS.ints o2 h2
  obtain ⟨k, h⟩ := PureFnExactIvWiden.FnExactIvWiden a0_0 a0_1 a1_0 a1_1 l2 b0_0 b0_1 b1_0 b1_1 b2
  exact (laws_FnExactIvWiden.calls k a0_0 a0_1 a1_0 a1_1 A2 c2 l2 W r2 q2 h).mono fun e W' ⟨he, hd⟩ => ⟨he, hd⟩
end Go.Proofs.Ytnehmiefefaanaa.WalkFnExactIvWiden
