/- How a slice among the arguments of the laws is read, whatever its elements are, given how one element is read. Conditions: none. -/
import Derived.Test.YtcomagipdbdglaaDoorRows
import Derived.Test.YtcomagipdbdglaaDoorQx0
import Derived.WalkKit
import Derived.ProofKit
import Derived.OpenShut
import Derived.Deep.Slices
namespace Go.Proofs.YtcomagipdbdglaaDoor.OpenG
open Go.ChangeShapes Go.WideShapes Go.ChangeAt Go.RowKit Go.Deep Go.Proofs.YtcomagipdbdglaaDoorW.PrintWords Go.Proofs.YtcomagipdbdglaaDoor.Q
theorem row {H : Type} {enc : TypeId × Value → H} {W : World} {α : Type} [Inhabited α] (d : Kd α) (P : α → Prop) {t e : TypeId} (ht : Tryd.prog.underlying t = some (.slice e)) (hc : Tryd.prog.cellsOf e = d.sz)
    (each : ∀ n cs x, DataW.trod enc Tryd.prog W 0 (fun _ => true) true n e cs = some x → ∃ a : α, d.K W a cs ∧ P a)
    {n : Nat} {cs : List Value} {x : DataW H × List MemPlace} (h : DataW.trod enc Tryd.prog W 0 (fun _ => true) true n t cs = some x) :
    ∃ (A : Option Addr) (c : Nat) (l : List α), cs = [.slice A l.length c] ∧ Kd.C d W A l.length l ∧ l.length ≤ c ∧ (l.length ≤ 9223372036854775807 ∧ ∀ s ∈ l, P s) := by
  rcases open_slice ht h with ⟨rfl, _⟩ | ⟨a, len, cap, m, n, D, Pl, rfl, _, hl, hm, hz, _, hcell⟩
  · exact ⟨none, 0, [], rfl, Kd.C_nil _ _, by simp, by simp, by simp⟩
  · have hlm : len ≤ m := by rw [hz]; split <;> omega
    obtain ⟨f, hf⟩ := choose_lt (n := len) (p := fun i (q : α) => P q ∧ ∃ cs', W.cells? 0 (a.add (i * Tryd.prog.cellsOf e)) (Tryd.prog.cellsOf e) = some cs' ∧ d.K W q cs') (fun i hi => by
      obtain ⟨cs', h1, h2⟩ := hcell i (by omega)
      obtain ⟨q, hq, hp⟩ := each _ _ _ h2
      exact ⟨q, hp, cs', h1, hq⟩)
    have hlen : ((List.range len).map f).length = len := by simp
    refine ⟨some a, cap, (List.range len).map f, by rw [hlen], ?_, by rw [hlen]; exact hl, by rw [hlen]; unfold maxLen at hm; omega, fun s hs => ?_⟩
    · refine ⟨rfl, by rw [hlen]; unfold maxLen at hm; omega, fun _ => ⟨a, rfl, fun j q hj => ?_⟩⟩
      have hjl : j < len := by
        have := (List.getElem?_eq_some_iff.mp hj).1
        rwa [hlen] at this
      rw [List.getElem?_map, List.getElem?_range hjl] at hj
      simp at hj
      subst hj
      obtain ⟨_, cs', h1, h2⟩ := hf j hjl
      obtain ⟨_, hcl, hci⟩ := World.cells?_some h1
      refine ⟨cs', d.K_len h2, h2, fun i u hu => ?_⟩
      have hi : i < Tryd.prog.cellsOf e := by rw [← hcl]; exact (List.getElem?_eq_some_iff.mp hu).1
      have := hci i hi
      rw [hu, hc, show (a.add (j * d.sz)).add i = a.add (j * d.sz + i) from Go.Deep.add_add _ _ _] at this
      exact this
    · obtain ⟨i, hi, rfl⟩ := List.mem_map.mp hs
      exact (hf i (List.mem_range.mp hi)).1
theorem ints {H : Type} {enc : TypeId × Value → H} {W : World} {n : Nat} {cs : List Value} {x : DataW H × List MemPlace} (h : DataW.trod enc Tryd.prog W 0 (fun _ => true) true n 45 cs = some x) :
    ∃ (A : Option Addr) (c : Nat) (l : List Int), cs = [.slice A l.length c] ∧ Kd.C (Kd.int .i64) W A l.length l ∧ l.length ≤ c ∧ (l.length ≤ 9223372036854775807 ∧ ∀ s ∈ l, -9223372036854775808 ≤ s ∧ s ≤ 9223372036854775807) :=
  row (Kd.int .i64) (fun s => -9223372036854775808 ≤ s ∧ s ≤ 9223372036854775807) Tryd.underlying45 (by kernel_rfl) (fun n cs x h => by
    obtain ⟨a, e, -, w⟩ := DataW.trod_int Tryd.underlying2 h
    exact ⟨a, e, bounds_i64 w⟩) h
theorem bools {H : Type} {enc : TypeId × Value → H} {W : World} {n : Nat} {cs : List Value} {x : DataW H × List MemPlace} (h : DataW.trod enc Tryd.prog W 0 (fun _ => true) true n 46 cs = some x) :
    ∃ (A : Option Addr) (c : Nat) (l : List Bool), cs = [.slice A l.length c] ∧ Kd.C Kd.bool W A l.length l ∧ l.length ≤ c ∧ (l.length ≤ 9223372036854775807 ∧ ∀ s ∈ l, True) :=
  row Kd.bool (fun _ => True) Tryd.underlying46 (by kernel_rfl) (fun n cs x h => by
    obtain ⟨a, e, -⟩ := DataW.trod_bool Tryd.underlying4 h
    exact ⟨a, e, trivial⟩) h
theorem intss {H : Type} {enc : TypeId × Value → H} {W : World} {n : Nat} {cs : List Value} {x : DataW H × List MemPlace} (h : DataW.trod enc Tryd.prog W 0 (fun _ => true) true n 47 cs = some x) :
    ∃ (A : Option Addr) (c : Nat) (l : List (List Int)), cs = [.slice A l.length c] ∧ Kd.C (Kd.slice 2 (Kd.int .i64)) W A l.length l ∧ l.length ≤ c ∧ (l.length ≤ 9223372036854775807 ∧ ∀ s ∈ l, s.length ≤ 9223372036854775807 ∧ ∀ x ∈ s, -9223372036854775808 ≤ x ∧ x ≤ 9223372036854775807) :=
  row (Kd.slice 2 (Kd.int .i64)) (fun s => s.length ≤ 9223372036854775807 ∧ ∀ x ∈ s, -9223372036854775808 ≤ x ∧ x ≤ 9223372036854775807) Tryd.underlying47 (by kernel_rfl) (fun n cs x h => by
    obtain ⟨A, c, l, e, hr, hl, hb⟩ := ints h
    exact ⟨l, ⟨A, c, e, hl, hr⟩, hb⟩) h
end Go.Proofs.YtcomagipdbdglaaDoor.OpenG
