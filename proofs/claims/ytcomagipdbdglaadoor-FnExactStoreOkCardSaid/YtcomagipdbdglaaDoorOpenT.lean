/- How an argument of the laws that is a store is read. Conditions: none. -/
import Derived.Test.YtcomagipdbdglaaDoorOpenG
import Derived.Lib.SmallJoins
namespace Go.Proofs.YtcomagipdbdglaaDoor.OpenT
open Go.ChangeShapes Go.WideShapes Go.ChangeAt Go.RowKit Go.Deep Go.Joins Go.Proofs.YtcomagipdbdglaaDoorW.PrintWords Go.Proofs.YtcomagipdbdglaaDoor.Q
variable {H : Type} {enc : TypeId × Value → H} {W : World} {base : Nat} {v : Value} {d : DataW H} {p : List MemPlace}
set_option maxRecDepth 100000 in
theorem store (o : Value.okWide Tryd.prog W .any base 49 v) (h : DataW.Trod enc Tryd.prog W 0 (fun _ => true) true 49 v d p) :
    ∃ (A0 : Option Addr) (c0 : Nat) (l0 : List Int) (A1 : Option Addr) (c1 : Nat) (l1 : List Bool) (A2 : Option Addr) (c2 : Nat) (l2 : List (List Int)), v = .agg #[.slice A0 l0.length c0, .slice A1 l1.length c1, .slice A2 l2.length c2] ∧
      Kd.C (Kd.int .i64) W A0 l0.length l0 ∧ l0.length ≤ c0 ∧ l0.length ≤ 9223372036854775807 ∧ Kd.C Kd.bool W A1 l1.length l1 ∧ l1.length ≤ c1 ∧ l1.length ≤ 9223372036854775807 ∧ Kd.C (Kd.slice 2 (Kd.int .i64)) W A2 l2.length l2 ∧ l2.length ≤ c2 ∧ (l2.length ≤ 9223372036854775807 ∧ ∀ s ∈ l2, s.length ≤ 9223372036854775807) := by
  obtain ⟨v0, v1, v2, y0, y1, y2, m, rfl, -, -, q0, q1, q2⟩ := open_agg3 Tryd.underlying49 (by kernel_rfl) (by kernel_rfl) o h
  obtain ⟨A0, c0, l0, e0, r0, s0, b0⟩ := OpenG.ints q0
  obtain ⟨A1, c1, l1, e1, r1, s1, b1⟩ := OpenG.bools q1
  obtain ⟨A2, c2, l2, e2, r2, s2, b2⟩ := OpenG.intss q2
  simp at e0 e1 e2
  subst e0 e1 e2
  exact ⟨A0, c0, l0, A1, c1, l1, A2, c2, l2, rfl, r0, s0, b0.1, r1, s1, b1.1, r2, s2, b2.1, fun s hs => (b2.2 s hs).1⟩
end Go.Proofs.YtcomagipdbdglaaDoor.OpenT
