/- How an argument of the laws is read: an interval, a whole number. Conditions: none. -/
import Derived.Test.YtojlcngdcodgbaaRows
import Derived.WalkKit
import Derived.ProofKit
import Derived.OpenShut
import Derived.Lib.SmallJoins
namespace Go.Proofs.Ytojlcngdcodgbaa.Open
open Go.ChangeShapes Go.WideShapes Go.ChangeAt Go.RowKit Go.Joins
variable {H : Type} {enc : TypeId × Value → H} {W : World} {base : Nat} {v : Value} {d : DataW H} {p : List MemPlace}

theorem i64 (o : Value.okWide Try.prog W .any base 2 v) (h : DataW.Trod enc Try.prog W 0 (fun _ => true) true 2 v d p) :
    ∃ a : Int, v = .int .i64 a ∧ (-9223372036854775808 ≤ a ∧ a ≤ 9223372036854775807) := by
  obtain ⟨a, rfl, -, -, w⟩ := open_int Try.underlying2 o h
  exact ⟨a, rfl, bounds_i64 w⟩


end Go.Proofs.Ytojlcngdcodgbaa.Open
