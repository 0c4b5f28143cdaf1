/- The walk of FnIvEnds: for every input the law's function returns true and leaves all memory that was there as it was. Conditions: none. -/
import Derived.Test.YtdjhalelgknnkaaOpenS
import Derived.Test.YtdjhalelgknnkaaQx28
import Derived.Test.YtdjhalelgknnkaaPureFnIvEnds
namespace Go.Proofs.Ytdjhalelgknnkaa.WalkFnIvEnds
open Go.RowKit Go.Proofs.Ytdjhalelgknnkaa Go.Proofs.Ytdjhalelgknnkaa.Q Go.Proofs.YtdjhalelgknnkaaW.PrintWords
set_option linter.unusedVariables false
theorem walk {H : Type} {enc : TypeId × Value → H} {base : Nat} (v0 : Value) (d0 : DataW H) (p0 : List MemPlace) (W : World)
    (o0 : Value.okWide Try.prog W .any base 22 v0) (h0 : DataW.Trod enc Try.prog W 0 (fun _ => true) true 22 v0 d0 p0)
    : Calls Try.prog 5 #[v0] W fun e W' => e = .returned (.bool true) ∧ Below W.heap.size W W' := by
  obtain ⟨A0, c0, l0, rfl, r0, q0, b0⟩ := OpenS.bytes o0 h0
  obtain ⟨k, h⟩ := PureFnIvEnds.FnIvEnds l0 b0
  exact (laws_FnIvEnds.calls k A0 c0 l0 W r0 q0 h).mono fun e W' ⟨he, hd⟩ => ⟨he, hd⟩
end Go.Proofs.Ytdjhalelgknnkaa.WalkFnIvEnds
