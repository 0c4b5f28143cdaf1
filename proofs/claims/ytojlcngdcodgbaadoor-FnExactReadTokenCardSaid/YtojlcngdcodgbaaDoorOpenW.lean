/- How an argument of the laws is read: a string. Conditions: none. -/
import Derived.Test.YtojlcngdcodgbaaDoorRows
import Derived.WalkKit
import Derived.ProofKit
import Derived.OpenShut
import Derived.ChangeMaps5
import Derived.Lib.SmallJoins
namespace Go.Proofs.YtojlcngdcodgbaaDoor.OpenW
open Go.ChangeShapes Go.WideShapes Go.ChangeAt Go.RowKit Go.Joins
variable {H : Type} {enc : TypeId × Value → H} {W : World} {base : Nat} {v : Value} {d : DataW H} {p : List MemPlace}

set_option maxRecDepth 100000 in
theorem str (o : Value.okWide Tryd.prog W .any base 9 v) (h : DataW.Trod enc Tryd.prog W 0 (fun _ => true) true 9 v d p) :
    ∃ a : ByteArray, v = .string a ∧ a.size ≤ 9223372036854775807 := by
  obtain ⟨s, e, -, -, hs⟩ := Go.ChangeMaps.open_string Tryd.underlying9 o h
  exact ⟨s, e, hs⟩

end Go.Proofs.YtojlcngdcodgbaaDoor.OpenW
