/- The walk of FnIvMore: for every input the law's function returns true and leaves all memory that was there as it was. Conditions: none. -/
import Derived.Test.YtdjhalelgknnkaaOpenS
import Derived.Test.YtdjhalelgknnkaaQx28
import Derived.Test.YtdjhalelgknnkaaPureFnIvMore
namespace Go.Proofs.Ytdjhalelgknnkaa.WalkFnIvMore
open Go.RowKit Go.Proofs.Ytdjhalelgknnkaa Go.Proofs.Ytdjhalelgknnkaa.Q Go.Proofs.YtdjhalelgknnkaaW.PrintWords
set_option linter.unusedVariables false
theorem walk {H : Type} {enc : TypeId × Value → H} {base : Nat} (v0 : Value) (d0 : DataW H) (p0 : List MemPlace) (v1 : Value) (d1 : DataW H) (p1 : List MemPlace) (W : World)
    (o0 : Value.okWide Try.prog W .any base 22 v0) (h0 : DataW.Trod enc Try.prog W 0 (fun _ => true) true 22 v0 d0 p0)
    (o1 : Value.okWide Try.prog W .any base 22 v1) (h1 : DataW.Trod enc Try.prog W 0 (fun _ => true) true 22 v1 d1 p1)
    : Calls Try.prog 7 #[v0, v1] W fun e W' => e = .returned (.bool true) ∧ Below W.heap.size W W' := by
  obtain ⟨A0, c0, l0, rfl, r0, q0, b0⟩ := OpenS.bytes o0 h0
  obtain ⟨A1, c1, l1, rfl, r1, q1, b1⟩ := OpenS.bytes o1 h1
  obtain ⟨k, h⟩ := PureFnIvMore.FnIvMore l0 l1 b0 b1
  exact (laws_FnIvMore.calls k A0 c0 l0 A1 c1 l1 W r0 q0 r1 q1 h).mono fun e W' ⟨he, hd⟩ => ⟨he, hd⟩
end Go.Proofs.Ytdjhalelgknnkaa.WalkFnIvMore
