/- How an argument of the laws that is a bounds is read, and a slice of such. Conditions: none. -/
import Derived.Test.YtcomagipdbdglaaDoorOpenG
import Derived.Lib.SmallJoins
namespace Go.Proofs.YtcomagipdbdglaaDoor.OpenV
open Go.ChangeShapes Go.WideShapes Go.ChangeAt Go.RowKit Go.Deep Go.Joins Go.Proofs.YtcomagipdbdglaaDoorW.PrintWords Go.Proofs.YtcomagipdbdglaaDoor.Q
variable {H : Type} {enc : TypeId × Value → H} {W : World} {base : Nat} {v : Value} {d : DataW H} {p : List MemPlace}
set_option maxRecDepth 100000 in
theorem ivs {n : Nat} {cs : List Value} {x : DataW H × List MemPlace} (h : DataW.trod enc Tryd.prog W 0 (fun _ => true) true n 34 cs = some x) :
    ∃ (A : Option Addr) (c : Nat) (l : List S149), cs = [.slice A l.length c] ∧ Kd.C k149 W A l.length l ∧ l.length ≤ c ∧ (l.length ≤ 9223372036854775807 ∧ ∀ s ∈ l, True) :=
  haveI : Inhabited S149 := ⟨z149⟩
  OpenG.row k149 (fun _ => True) Tryd.underlying34 (by kernel_rfl) (fun n cs x h => by
    obtain ⟨y0, y1, m, hx, hl, h0, h1⟩ := trod_struct2 Tryd.underlying149 h
    have hc : Tryd.prog.cellsOf 149 = 2 := by kernel_rfl
    have hc2 : Tryd.prog.cellsOf 2 = 1 := by kernel_rfl
    rw [hc] at hl
    match cs, hl with
    | [c0, c1], _ =>
      simp only [hc2, List.drop_zero, List.take_succ_cons, List.take_zero, List.drop_succ_cons] at h0 h1
      obtain ⟨a, e0, -, -⟩ := DataW.trod_int Tryd.underlying2 h0
      obtain ⟨b, e1, -, -⟩ := DataW.trod_int Tryd.underlying2 h1
      simp at e0 e1
      subst e0 e1
      exact ⟨⟨a, b⟩, k149_mk W ⟨a, b⟩, trivial⟩) h
set_option maxRecDepth 100000 in
theorem env (o : Value.okWide Tryd.prog W .any base 36 v) (h : DataW.Trod enc Tryd.prog W 0 (fun _ => true) true 36 v d p) :
    ∃ (a0 : Bool) (A1 : Option Addr) (c1 : Nat) (l1 : List S149) (A2 : Option Addr) (c2 : Nat) (l2 : List S149), v = .agg #[.bool a0, .slice A1 l1.length c1, .slice A2 l2.length c2] ∧
      Kd.C k149 W A1 l1.length l1 ∧ l1.length ≤ c1 ∧ l1.length ≤ 9223372036854775807 ∧ Kd.C k149 W A2 l2.length l2 ∧ l2.length ≤ c2 ∧ l2.length ≤ 9223372036854775807 := by
  obtain ⟨v0, v1, v2, y0, y1, y2, m, rfl, -, -, q0, q1, q2⟩ := open_agg3 Tryd.underlying36 (by kernel_rfl) (by kernel_rfl) o h
  obtain ⟨a0, e0, -⟩ := DataW.trod_bool Tryd.underlying4 q0
  obtain ⟨A1, c1, l1, e1, r1, s1, b1⟩ := ivs q1
  obtain ⟨A2, c2, l2, e2, r2, s2, b2⟩ := ivs q2
  simp at e0 e1 e2
  subst e0 e1 e2
  exact ⟨a0, A1, c1, l1, A2, c2, l2, rfl, r1, s1, b1.1, r2, s2, b2.1⟩
set_option maxRecDepth 100000 in
theorem envs (o : Value.okWide Tryd.prog W .any base 58 v) (h : DataW.Trod enc Tryd.prog W 0 (fun _ => true) true 58 v d p) :
    ∃ (A : Option Addr) (c : Nat) (l : List S36), v = .slice A l.length c ∧ Kd.C k36 W A l.length l ∧ l.length ≤ c ∧ (l.length ≤ 9223372036854775807 ∧ ∀ s ∈ l, s.f1.length ≤ 9223372036854775807 ∧ s.f2.length ≤ 9223372036854775807) := by
  haveI : Inhabited S36 := ⟨z36⟩
  obtain ⟨a0, len0, cap0, rfl⟩ := okWide_slice Tryd.underlying58 o
  obtain ⟨fuel, hf⟩ := h
  obtain ⟨A, c, l, e, hr, hl, hb⟩ := OpenG.row k36 (fun s => s.f1.length ≤ 9223372036854775807 ∧ s.f2.length ≤ 9223372036854775807) Tryd.underlying58 (by kernel_rfl) (fun n cs x h => by
    obtain ⟨y0, y1, y2, m, hx, hl, h0, h1, h2⟩ := trod_struct3 Tryd.underlying36 h
    have hc : Tryd.prog.cellsOf 36 = 3 := by kernel_rfl
    have hc0 : Tryd.prog.cellsOf 4 = 1 := by kernel_rfl
    have hc1 : Tryd.prog.cellsOf 34 = 1 := by kernel_rfl
    rw [hc] at hl
    match cs, hl with
    | [d0, d1, d2], _ =>
      simp only [hc0, hc1, List.drop_zero, List.take_succ_cons, List.take_zero, List.drop_succ_cons] at h0 h1 h2
      obtain ⟨a0, e0, -⟩ := DataW.trod_bool Tryd.underlying4 h0
      obtain ⟨A1, c1, l1, e1, r1, s1, b1⟩ := ivs h1
      obtain ⟨A2, c2, l2, e2, r2, s2, b2⟩ := ivs h2
      simp at e0 e1 e2
      subst e0 e1 e2
      exact ⟨⟨a0, l1, l2⟩, k36_mk W ⟨a0, l1, l2⟩ s1 r1 s2 r2, b1.1, b2.1⟩) hf
  simp [Value.cells] at e
  obtain ⟨rfl, rfl, rfl⟩ := e
  exact ⟨_, _, l, rfl, hr, hl, hb⟩
end Go.Proofs.YtcomagipdbdglaaDoor.OpenV
