/- How an argument of the laws that is a slice of entries is read: two whole numbers an entry. Conditions: none. -/
import Derived.Test.YtojlcngdcodgbaaDoorRows
import Derived.Test.YtojlcngdcodgbaaDoorQx0
import Derived.WalkKit
import Derived.ProofKit
import Derived.OpenShut
import Derived.Deep.SlicePairs
namespace Go.Proofs.YtojlcngdcodgbaaDoor.OpenE
open Go.ChangeShapes Go.WideShapes Go.ChangeAt Go.RowKit Go.Deep Go.Proofs.YtojlcngdcodgbaaDoorW.PrintWords Go.Proofs.YtojlcngdcodgbaaDoor.Q
variable {H : Type} {enc : TypeId × Value → H} {W : World} {base : Nat} {v : Value} {d : DataW H} {p : List MemPlace}
set_option maxRecDepth 100000 in
theorem entries (o : Value.okWide Tryd.prog W .any base 22 v) (h : DataW.Trod enc Tryd.prog W 0 (fun _ => true) true 22 v d p) :
    ∃ (A : Option Addr) (c : Nat) (l : List S42), v = .slice A l.length c ∧ Kd.C k42 W A l.length l ∧ l.length ≤ c ∧ l.length ≤ 9223372036854775807 ∧ ∀ x ∈ l, (-9223372036854775808 ≤ x.f0 ∧ x.f0 ≤ 9223372036854775807) ∧ (-9223372036854775808 ≤ x.f1 ∧ x.f1 ≤ 9223372036854775807) := by
  obtain ⟨a0, len0, cap0, rfl⟩ := okWide_slice Tryd.underlying22 o
  obtain ⟨fuel, hf⟩ := h
  rcases open_slice_pairs Tryd.underlying22 Tryd.underlying42 (by kernel_rfl) rfl rfl (by kernel_rfl) (by kernel_rfl) hf with ⟨hcs, _⟩ | ⟨a, len, cap, m, n, V0, V1, D0, D1, P0, P1, hcs, hb, hl, hm, hmm, _, hcell⟩
  · simp [Value.cells] at hcs
    obtain ⟨rfl, rfl, rfl⟩ := hcs
    exact ⟨none, 0, [], rfl, Kd.C_nil _ _, by simp, by simp, by simp⟩
  · simp [Value.cells] at hcs
    obtain ⟨rfl, rfl, rfl⟩ := hcs
    have hlm : len0 ≤ m := by rw [hmm]; split <;> omega
    obtain ⟨f, hf⟩ := choose_lt (n := len0) (p := fun i (q : Int × Int) => V0 i = .int .i64 q.1 ∧ V1 i = .int .i64 q.2 ∧ (-9223372036854775808 ≤ q.1 ∧ q.1 ≤ 9223372036854775807) ∧ (-9223372036854775808 ≤ q.2 ∧ q.2 ≤ 9223372036854775807)) (fun i hi => by
      obtain ⟨_, _, q0, q1⟩ := hcell i (by omega)
      obtain ⟨x, e0, -, wx⟩ := DataW.trod_int Tryd.underlying2 q0
      obtain ⟨y, e1, -, wy⟩ := DataW.trod_int Tryd.underlying2 q1
      simp at e0 e1
      exact ⟨(x, y), e0, e1, bounds_i64 wx, bounds_i64 wy⟩)
    have hlen : ((List.range len0).map fun i => (⟨(f i).1, (f i).2⟩ : S42)).length = len0 := by simp
    refine ⟨some a, cap0, (List.range len0).map fun i => ⟨(f i).1, (f i).2⟩, by rw [hlen], ?_, by rw [hlen]; exact hl, by rw [hlen]; unfold maxLen at hm; omega, ?_⟩
    · refine ⟨rfl, by rw [hlen]; unfold maxLen at hm; omega, fun _ => ⟨a, rfl, fun j q hj => ?_⟩⟩
      have hjl : j < len0 := by
        have := (List.getElem?_eq_some_iff.mp hj).1
        rwa [hlen] at this
      rw [List.getElem?_map, List.getElem?_range hjl] at hj
      simp at hj
      subst hj
      obtain ⟨c0, c1, _, _⟩ := hcell j (by omega)
      obtain ⟨g0, g1, _, _⟩ := hf j hjl
      refine ⟨[.int .i64 (f j).1, .int .i64 (f j).2], rfl, k42_mk W ⟨(f j).1, (f j).2⟩, fun i u hu => ?_⟩
      match i, hu with
      | 0, hu => simp at hu; subst hu; rw [g0] at c0; exact c0
      | 1, hu => simp at hu; subst hu; rw [g1] at c1; exact c1
      | i + 2, hu => simp at hu
    · intro x hx
      obtain ⟨i, hi, rfl⟩ := List.mem_map.mp hx
      obtain ⟨_, _, b0, b1⟩ := hf i (List.mem_range.mp hi)
      exact ⟨b0, b1⟩
end Go.Proofs.YtojlcngdcodgbaaDoor.OpenE
