/- How an argument of the laws that is a declaration is read: two slices of names and a slice of arrays' names and sizes. Conditions: none. -/
import Derived.Test.YtcomagipdbdglaaDoorRows
import Derived.Test.YtcomagipdbdglaaDoorQx0
import Derived.WalkKit
import Derived.ProofKit
import Derived.OpenShut
import Derived.SliceStrings
import Derived.Deep.SlicePairs
import Derived.Lib.SmallJoins
namespace Go.Proofs.YtcomagipdbdglaaDoor.OpenD
open Go.ChangeShapes Go.WideShapes Go.ChangeAt Go.RowKit Go.Deep Go.Joins Go.Proofs.YtcomagipdbdglaaDoorW.PrintWords Go.Proofs.YtcomagipdbdglaaDoor.Q
variable {H : Type} {enc : TypeId × Value → H} {W : World} {base : Nat} {v : Value} {d : DataW H} {p : List MemPlace}
theorem strings {n : Nat} {cs : List Value} {x : DataW H × List MemPlace} (h : DataW.trod enc Tryd.prog W 0 (fun _ => true) true n 22 cs = some x) :
    ∃ (A : Option Addr) (c : Nat) (l : List ByteArray), cs = [.slice A l.length c] ∧ Kd.C Kd.string W A l.length l ∧ l.length ≤ c ∧ (l.length ≤ 9223372036854775807 ∧ ∀ s ∈ l, s.size ≤ 9223372036854775807) := by
  rcases open_strings Tryd.underlying22 Tryd.underlying9 (by kernel_rfl) h with ⟨rfl, _⟩ | ⟨a, len, cap, ss, rfl, _, hl, hm, hz, _, hcell, hsz⟩
  · exact ⟨none, 0, [], rfl, Kd.C_nil _ _, by simp, by simp, by simp⟩
  · have hcap : ss.length = cap := by simpa using hz
    have hlen : (ss.take len).length = len := by simp; omega
    refine ⟨some a, cap, ss.take len, by rw [hlen], ?_, by rw [hlen]; exact hl, by rw [hlen]; unfold maxLen at hm; omega, fun s hs => by have := hsz s (List.mem_of_mem_take hs); unfold maxLen at this; omega⟩
    refine ⟨rfl, by rw [hlen]; unfold maxLen at hm; omega, fun _ => ⟨a, rfl, fun j q hj => ?_⟩⟩
    have hjl : j < len := by
      have := (List.getElem?_eq_some_iff.mp hj).1
      rwa [hlen] at this
    rw [List.getElem?_take_of_lt hjl] at hj
    obtain ⟨hjs, rfl⟩ := List.getElem?_eq_some_iff.mp hj
    refine ⟨[.string ss[j]], rfl, rfl, fun i u hu => ?_⟩
    match i, hu with
    | 0, hu =>
      simp at hu
      subst hu
      have := hcell j hjs
      rw [List.getD_eq_getElem?_getD, List.getElem?_eq_getElem hjs] at this
      rw [show j * Kd.string.sz + 0 = j by show j * 1 + 0 = j; omega]
      exact this
    | i + 1, hu => simp at hu
theorem arrs {n : Nat} {cs : List Value} {x : DataW H × List MemPlace} (h : DataW.trod enc Tryd.prog W 0 (fun _ => true) true n 23 cs = some x) :
    ∃ (A : Option Addr) (c : Nat) (l : List S141), cs = [.slice A l.length c] ∧ Kd.C k141 W A l.length l ∧ l.length ≤ c ∧ (l.length ≤ 9223372036854775807 ∧ ∀ s ∈ l, s.f0.size ≤ 9223372036854775807) := by
  rcases open_slice_pairs Tryd.underlying23 Tryd.underlying141 (by kernel_rfl) rfl rfl (by kernel_rfl) (by kernel_rfl) h with ⟨rfl, _⟩ | ⟨a, len, cap, m, n, V0, V1, D0, D1, P0, P1, rfl, hb, hl, hm, hmm, _, hcell⟩
  · exact ⟨none, 0, [], rfl, Kd.C_nil _ _, by simp, by simp, by simp⟩
  · have hlm : len ≤ m := by rw [hmm]; split <;> omega
    obtain ⟨f, hf⟩ := choose_lt (n := len) (p := fun i (q : ByteArray × Int) => V0 i = .string q.1 ∧ V1 i = .int .i64 q.2 ∧ q.1.size ≤ 9223372036854775807) (fun i hi => by
      obtain ⟨_, _, q0, q1⟩ := hcell i (by omega)
      obtain ⟨x, e0, -, wx⟩ := DataW.trod_string Tryd.underlying9 q0
      obtain ⟨y, e1, -, wy⟩ := DataW.trod_int Tryd.underlying2 q1
      simp at e0 e1
      exact ⟨(x, y), e0, e1, by unfold maxLen at wx; omega⟩)
    have hlen : ((List.range len).map fun i => (⟨(f i).1, (f i).2⟩ : S141)).length = len := by simp
    refine ⟨some a, cap, (List.range len).map fun i => ⟨(f i).1, (f i).2⟩, by rw [hlen], ?_, by rw [hlen]; exact hl, by rw [hlen]; unfold maxLen at hm; omega, ?_⟩
    · refine ⟨rfl, by rw [hlen]; unfold maxLen at hm; omega, fun _ => ⟨a, rfl, fun j q hj => ?_⟩⟩
      have hjl : j < len := by
        have := (List.getElem?_eq_some_iff.mp hj).1
        rwa [hlen] at this
      rw [List.getElem?_map, List.getElem?_range hjl] at hj
      simp at hj
      subst hj
      obtain ⟨c0, c1, _, _⟩ := hcell j (by omega)
      obtain ⟨g0, g1, _⟩ := hf j hjl
      refine ⟨[.string (f j).1, .int .i64 (f j).2], rfl, k141_mk W ⟨(f j).1, (f j).2⟩, fun i u hu => ?_⟩
      match i, hu with
      | 0, hu => simp at hu; subst hu; rw [g0] at c0; exact c0
      | 1, hu => simp at hu; subst hu; rw [g1] at c1; exact c1
      | i + 2, hu => simp at hu
    · intro x hx
      obtain ⟨i, hi, rfl⟩ := List.mem_map.mp hx
      exact (hf i (List.mem_range.mp hi)).2.2
set_option maxRecDepth 100000 in
theorem decl (o : Value.okWide Tryd.prog W .any base 25 v) (h : DataW.Trod enc Tryd.prog W 0 (fun _ => true) true 25 v d p) :
    ∃ (A0 : Option Addr) (c0 : Nat) (l0 : List ByteArray) (A1 : Option Addr) (c1 : Nat) (l1 : List ByteArray) (A2 : Option Addr) (c2 : Nat) (l2 : List S141), v = .agg #[.slice A0 l0.length c0, .slice A1 l1.length c1, .slice A2 l2.length c2] ∧
      Kd.C Kd.string W A0 l0.length l0 ∧ l0.length ≤ c0 ∧ (l0.length ≤ 9223372036854775807 ∧ ∀ s ∈ l0, s.size ≤ 9223372036854775807) ∧ Kd.C Kd.string W A1 l1.length l1 ∧ l1.length ≤ c1 ∧ (l1.length ≤ 9223372036854775807 ∧ ∀ s ∈ l1, s.size ≤ 9223372036854775807) ∧ Kd.C k141 W A2 l2.length l2 ∧ l2.length ≤ c2 ∧ (l2.length ≤ 9223372036854775807 ∧ ∀ s ∈ l2, s.f0.size ≤ 9223372036854775807) := by
  obtain ⟨v0, v1, v2, y0, y1, y2, m, rfl, -, -, q0, q1, q2⟩ := open_agg3 Tryd.underlying25 (by kernel_rfl) (by kernel_rfl) o h
  obtain ⟨A0, c0, l0, e0, r0, s0, b0⟩ := strings q0
  obtain ⟨A1, c1, l1, e1, r1, s1, b1⟩ := strings q1
  obtain ⟨A2, c2, l2, e2, r2, s2, b2⟩ := arrs q2
  simp at e0 e1 e2
  subst e0 e1 e2
  exact ⟨A0, c0, l0, A1, c1, l1, A2, c2, l2, rfl, r0, s0, b0, r1, s1, b1, r2, s2, b2⟩
end Go.Proofs.YtcomagipdbdglaaDoor.OpenD
