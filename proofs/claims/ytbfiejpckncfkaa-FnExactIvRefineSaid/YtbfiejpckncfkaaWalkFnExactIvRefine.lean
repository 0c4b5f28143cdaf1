/- The walk of FnExactIvRefine: for every input the law's function returns true and leaves all memory that was there as it was. Conditions: none. -/
import Derived.Test.YtbfiejpckncfkaaOpen
import Derived.Test.YtbfiejpckncfkaaQx12
import Derived.Test.YtbfiejpckncfkaaPureFnExactIvRefine
namespace Go.Proofs.Ytbfiejpckncfkaa.WalkFnExactIvRefine
open Go.RowKit Go.Proofs.Ytbfiejpckncfkaa Go.Proofs.Ytbfiejpckncfkaa.Q Go.Proofs.YtbfiejpckncfkaaW.PrintWords
set_option linter.unusedVariables false
theorem walk {H : Type} {enc : TypeId × Value → H} {base : Nat} (v0 : Value) (d0 : DataW H) (p0 : List MemPlace) (v1 : Value) (d1 : DataW H) (p1 : List MemPlace) (v2 : Value) (d2 : DataW H) (p2 : List MemPlace) (W : World)
    (o0 : Value.okWide Try.prog W .any base 2 v0) (h0 : DataW.Trod enc Try.prog W 0 (fun _ => true) true 2 v0 d0 p0)
    (o1 : Value.okWide Try.prog W .any base 23 v1) (h1 : DataW.Trod enc Try.prog W 0 (fun _ => true) true 23 v1 d1 p1)
    (o2 : Value.okWide Try.prog W .any base 23 v2) (h2 : DataW.Trod enc Try.prog W 0 (fun _ => true) true 23 v2 d2 p2)
    : Calls Try.prog 4 #[v0, v1, v2] W fun e W' => e = .returned (.bool true) ∧ Below W.heap.size W W' := by
  obtain ⟨a0, rfl, b0⟩ := Open.i64 o0 h0
  obtain ⟨a1_0, a1_1, rfl, b1_0, b1_1⟩ := Open.iv o1 h1
  obtain ⟨a2_0, a2_1, rfl, b2_0, b2_1⟩ := Open.iv o2 h2
  obtain ⟨k, h⟩ := PureFnExactIvRefine.FnExactIvRefine a0 a1_0 a1_1 a2_0 a2_1 b0 b1_0 b1_1 b2_0 b2_1
  exact (laws_FnExactIvRefine.calls k a0 a1_0 a1_1 a2_0 a2_1 W h).mono fun e W' ⟨he, hd⟩ => ⟨he, hd⟩
end Go.Proofs.Ytbfiejpckncfkaa.WalkFnExactIvRefine
