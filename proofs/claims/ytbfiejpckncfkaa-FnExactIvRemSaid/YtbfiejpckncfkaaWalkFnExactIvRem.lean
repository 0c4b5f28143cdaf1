/- The walk of FnExactIvRem: for every input the law's function returns true and leaves all memory that was there as it was. Conditions: none. -/
import Derived.Test.YtbfiejpckncfkaaOpen
import Derived.Test.YtbfiejpckncfkaaQx15
import Derived.Test.YtbfiejpckncfkaaPureFnExactIvRem
namespace Go.Proofs.Ytbfiejpckncfkaa.WalkFnExactIvRem
open Go.RowKit Go.Proofs.Ytbfiejpckncfkaa Go.Proofs.Ytbfiejpckncfkaa.Q Go.Proofs.YtbfiejpckncfkaaW.PrintWords
set_option linter.unusedVariables false
theorem walk {H : Type} {enc : TypeId × Value → H} {base : Nat} (v0 : Value) (d0 : DataW H) (p0 : List MemPlace) (v1 : Value) (d1 : DataW H) (p1 : List MemPlace) (W : World)
    (o0 : Value.okWide Try.prog W .any base 23 v0) (h0 : DataW.Trod enc Try.prog W 0 (fun _ => true) true 23 v0 d0 p0)
    (o1 : Value.okWide Try.prog W .any base 23 v1) (h1 : DataW.Trod enc Try.prog W 0 (fun _ => true) true 23 v1 d1 p1)
    : Calls Try.prog 5 #[v0, v1] W fun e W' => e = .returned (.bool true) ∧ Below W.heap.size W W' := by
  obtain ⟨a0_0, a0_1, rfl, b0_0, b0_1⟩ := Open.iv o0 h0
  obtain ⟨a1_0, a1_1, rfl, b1_0, b1_1⟩ := Open.iv o1 h1
  obtain ⟨k, h⟩ := PureFnExactIvRem.FnExactIvRem a0_0 a0_1 a1_0 a1_1 b0_0 b0_1 b1_0 b1_1
  exact (laws_FnExactIvRem.calls k a0_0 a0_1 a1_0 a1_1 W h).mono fun e W' ⟨he, hd⟩ => ⟨he, hd⟩
end Go.Proofs.Ytbfiejpckncfkaa.WalkFnExactIvRem
