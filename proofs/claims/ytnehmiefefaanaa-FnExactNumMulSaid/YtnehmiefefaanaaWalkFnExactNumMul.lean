/- The walk of FnExactNumMul: for every input the law's function returns true and leaves all memory that was there as it was. Conditions: none. -/
import Derived.Test.YtnehmiefefaanaaOpen
import Derived.Test.YtnehmiefefaanaaQx10
import Derived.Test.YtnehmiefefaanaaPureFnExactNumMul
namespace Go.Proofs.Ytnehmiefefaanaa.WalkFnExactNumMul
open Go.RowKit Go.Proofs.Ytnehmiefefaanaa Go.Proofs.Ytnehmiefefaanaa.Q Go.Proofs.YtnehmiefefaanaaW.PrintWords
theorem walk {H : Type} {enc : TypeId × Value → H} {base : Nat} (v0 : Value) (d0 : DataW H) (p0 : List MemPlace) (v1 : Value) (d1 : DataW H) (p1 : List MemPlace) (W : World)
    (o0 : Value.okWide Try.prog W .any base 2 v0) (h0 : DataW.Trod enc Try.prog W 0 (fun _ => true) true 2 v0 d0 p0)
    (o1 : Value.okWide Try.prog W .any base 2 v1) (h1 : DataW.Trod enc Try.prog W 0 (fun _ => true) true 2 v1 d1 p1)
    : Calls Try.prog 13 #[v0, v1] W fun e W' => e = .returned (.bool true) ∧ Below W.heap.size W W' := by
  obtain ⟨a0, rfl, b0⟩ := Open.i64 o0 h0
  obtain ⟨a1, rfl, b1⟩ := Open.i64 o1 h1
  have h := PureFnExactNumMul.FnExactNumMul a0 a1 b0 b1
  exact (laws_FnExactNumMul.calls a0 a1 W h).mono fun e W' ⟨he, hd⟩ => ⟨he, hd.below⟩
end Go.Proofs.Ytnehmiefefaanaa.WalkFnExactNumMul
