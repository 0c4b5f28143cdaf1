/- How an argument of the laws is read: an interval, a whole number. Conditions: none. -/
import Derived.Test.YtbfiejpckncfkaaRows
import Derived.WalkKit
import Derived.ProofKit
import Derived.OpenShut
import Derived.Lib.SmallJoins
namespace Go.Proofs.Ytbfiejpckncfkaa.Open
open Go.ChangeShapes Go.WideShapes Go.ChangeAt Go.RowKit Go.Joins
variable {H : Type} {enc : TypeId × Value → H} {W : World} {base : Nat} {v : Value} {d : DataW H} {p : List MemPlace}

theorem i64 (o : Value.okWide Try.prog W .any base 2 v) (h : DataW.Trod enc Try.prog W 0 (fun _ => true) true 2 v d p) :
    ∃ a : Int, v = .int .i64 a ∧ (-9223372036854775808 ≤ a ∧ a ≤ 9223372036854775807) := by
  obtain ⟨a, rfl, -, -, w⟩ := open_int Try.underlying2 o h
  exact ⟨a, rfl, bounds_i64 w⟩

theorem iv (o : Value.okWide Try.prog W .any base 23 v) (h : DataW.Trod enc Try.prog W 0 (fun _ => true) true 23 v d p) :
    ∃ a b : Int, v = .agg #[.int .i64 a, .int .i64 b] ∧ (-9223372036854775808 ≤ a ∧ a ≤ 9223372036854775807) ∧ (-9223372036854775808 ≤ b ∧ b ≤ 9223372036854775807) := by
  obtain ⟨c0, c1, y0, y1, m, rfl, -, -, q0, q1⟩ := open_agg2 Try.underlying23 (by kernel_rfl) (by kernel_rfl) o h
  obtain ⟨a, e0, -, wa⟩ := DataW.trod_int Try.underlying2 q0
  obtain ⟨b, e1, -, wb⟩ := DataW.trod_int Try.underlying2 q1
  simp at e0 e1
  subst e0 e1
  exact ⟨a, b, rfl, bounds_i64 wa, bounds_i64 wb⟩

end Go.Proofs.Ytbfiejpckncfkaa.Open
