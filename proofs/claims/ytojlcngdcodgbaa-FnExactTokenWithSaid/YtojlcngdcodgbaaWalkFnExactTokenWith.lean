/- The walk of FnExactTokenWith: for every input the law's function returns true and leaves all memory that was there as it was. Conditions: none. -/
import Derived.Test.YtojlcngdcodgbaaOpen
import Derived.Test.YtojlcngdcodgbaaOpenE
import Derived.Test.YtojlcngdcodgbaaQx16
import Derived.Test.YtojlcngdcodgbaaPureFnExactTokenWith
namespace Go.Proofs.Ytojlcngdcodgbaa.WalkFnExactTokenWith
open Go.RowKit Go.Proofs.Ytojlcngdcodgbaa Go.Proofs.Ytojlcngdcodgbaa.Q Go.Proofs.YtojlcngdcodgbaaW.PrintWords
set_option linter.unusedVariables false
theorem walk {H : Type} {enc : TypeId × Value → H} {base : Nat} (v0 : Value) (d0 : DataW H) (p0 : List MemPlace) (v1 : Value) (d1 : DataW H) (p1 : List MemPlace) (v2 : Value) (d2 : DataW H) (p2 : List MemPlace) (W : World)
    (o0 : Value.okWide Try.prog W .any base 22 v0) (h0 : DataW.Trod enc Try.prog W 0 (fun _ => true) true 22 v0 d0 p0)
    (o1 : Value.okWide Try.prog W .any base 2 v1) (h1 : DataW.Trod enc Try.prog W 0 (fun _ => true) true 2 v1 d1 p1)
    (o2 : Value.okWide Try.prog W .any base 2 v2) (h2 : DataW.Trod enc Try.prog W 0 (fun _ => true) true 2 v2 d2 p2)
    : Calls Try.prog 4 #[v0, v1, v2] W fun e W' => e = .returned (.bool true) ∧ Below W.heap.size W W' := by
  obtain ⟨A0, c0, l0, rfl, r0, q0, b0⟩ := OpenE.entries o0 h0
  obtain ⟨a1, rfl, b1⟩ := Open.i64 o1 h1
  obtain ⟨a2, rfl, b2⟩ := Open.i64 o2 h2
  obtain ⟨k, h⟩ := PureFnExactTokenWith.FnExactTokenWith l0 a1 a2 b0 b1 b2
  exact (laws_FnExactTokenWith.calls k A0 c0 l0 a1 a2 W r0 q0 h).mono fun e W' ⟨he, hd⟩ => ⟨he, hd⟩
end Go.Proofs.Ytojlcngdcodgbaa.WalkFnExactTokenWith
