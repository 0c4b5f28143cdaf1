/- How an argument of the laws that is a slice of Toks is read. Conditions: none. -/
import Derived.Test.YtcomagipdbdglaaDoorOpenG
import Derived.Lib.SmallJoins
namespace Go.Proofs.YtcomagipdbdglaaDoor.OpenX
open Go.ChangeShapes Go.WideShapes Go.ChangeAt Go.RowKit Go.Deep Go.Joins Go.Proofs.YtcomagipdbdglaaDoorW.PrintWords Go.Proofs.YtcomagipdbdglaaDoor.Q
variable {H : Type} {enc : TypeId × Value → H} {W : World} {base : Nat} {v : Value} {d : DataW H} {p : List MemPlace}
set_option maxRecDepth 100000 in
theorem toks (o : Value.okWide Tryd.prog W .any base 65 v) (h : DataW.Trod enc Tryd.prog W 0 (fun _ => true) true 65 v d p) :
    ∃ (A : Option Addr) (c : Nat) (l : List S121), v = .slice A l.length c ∧ Kd.C k121 W A l.length l ∧ l.length ≤ c ∧ l.length ≤ 9223372036854775807 := by
  haveI : Inhabited S121 := ⟨z121⟩
  obtain ⟨a0, len0, cap0, rfl⟩ := okWide_slice Tryd.underlying65 o
  obtain ⟨fuel, hf⟩ := h
  obtain ⟨A, c, l, e, hr, hl, hb⟩ := OpenG.row k121 (fun _ => True) Tryd.underlying65 (by kernel_rfl) (fun n cs x h => by
    obtain ⟨y0, y1, m, hx, hl, h0, h1⟩ := trod_struct2 Tryd.underlying121 h
    have hc : Tryd.prog.cellsOf 121 = 2 := by kernel_rfl
    have hc2 : Tryd.prog.cellsOf 2 = 1 := by kernel_rfl
    rw [hc] at hl
    match cs, hl with
    | [c0, c1], _ =>
      simp only [hc2, List.drop_zero, List.take_succ_cons, List.take_zero, List.drop_succ_cons] at h0 h1
      obtain ⟨a, e0, -, -⟩ := DataW.trod_int Tryd.underlying2 h0
      obtain ⟨b, e1, -, -⟩ := DataW.trod_int Tryd.underlying2 h1
      simp at e0 e1
      subst e0 e1
      exact ⟨⟨a, b⟩, k121_mk W ⟨a, b⟩, trivial⟩) hf
  simp [Value.cells] at e
  obtain ⟨rfl, rfl, rfl⟩ := e
  exact ⟨_, _, l, rfl, hr, hl, hb.1⟩
end Go.Proofs.YtcomagipdbdglaaDoor.OpenX
