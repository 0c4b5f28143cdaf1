/- The ends of what an operation gives, without an alarm, are what it gives of ends, for every code: the law's function returns true. Conditions: none. -/
import Derived.Test.YtdjhalelgknnkaaQx0
import Derived.Test.YtdjhalelgknnkaaQx2
import Derived.Test.YtdjhalelgknnkaaQx3
import Derived.Test.YtdjhalelgknnkaaQx4
import Derived.Test.YtdjhalelgknnkaaQx5
import Derived.Test.YtdjhalelgknnkaaQx6
import Derived.Test.YtdjhalelgknnkaaQx7
import Derived.Test.YtdjhalelgknnkaaQx8
import Derived.Test.YtdjhalelgknnkaaQx9
import Derived.Test.YtdjhalelgknnkaaQx10
import Derived.Test.YtdjhalelgknnkaaQx11
import Derived.Test.YtdjhalelgknnkaaQx12
import Derived.Test.YtdjhalelgknnkaaQx13
import Derived.Test.YtdjhalelgknnkaaQx14
import Derived.Test.YtdjhalelgknnkaaQx15
import Derived.Test.YtdjhalelgknnkaaQx16
import Derived.Test.YtdjhalelgknnkaaQx17
import Derived.Test.YtdjhalelgknnkaaQx18
import Derived.Test.YtdjhalelgknnkaaQx19
import Derived.Test.YtdjhalelgknnkaaQx20
import Derived.Test.YtdjhalelgknnkaaQx21
import Derived.Test.YtdjhalelgknnkaaQx22
import Derived.Test.YtdjhalelgknnkaaQx23
import Derived.Test.YtdjhalelgknnkaaQx24
import Derived.Test.YtdjhalelgknnkaaQx25
import Derived.Test.YtdjhalelgknnkaaQx26
import Derived.Test.YtdjhalelgknnkaaQx27
import Derived.Test.YtdjhalelgknnkaaQx28
import Derived.Test.YtdjhalelgknnkaaMath
namespace Go.Proofs.Ytdjhalelgknnkaa.PureFnIvEnds
open Go.RowKit Go.Proofs.Ytdjhalelgknnkaa Go.Proofs.Ytdjhalelgknnkaa.Q Go.Proofs.YtdjhalelgknnkaaW.PrintWords Go.Proofs.YtdjhalelgknnkaaW.PrintLast
set_option linter.unusedVariables false
set_option linter.unusedSimpArgs false

theorem minF_spec : ∀ (xs : List Int) (x : Int), (Cor.minF x xs ∈ x :: xs) ∧ ∀ y ∈ x :: xs, Cor.minF x xs ≤ y
  | [], x => by simp [Cor.minF]
  | z :: zs, x => by
    obtain ⟨h1, h2⟩ := minF_spec zs (mn x z)
    have e : Cor.minF x (z :: zs) = Cor.minF (mn x z) zs := rfl
    rw [e]
    have hm : mn x z = x ∨ mn x z = z := by unfold mn; split <;> simp
    have hle : mn x z ≤ x ∧ mn x z ≤ z := by unfold mn; split <;> omega
    refine ⟨?_, ?_⟩
    · rcases List.mem_cons.mp h1 with h | h
      · rw [h]; rcases hm with h | h <;> rw [h] <;> simp
      · exact List.mem_cons_of_mem _ (List.mem_cons_of_mem _ h)
    · intro y hy
      have h0 := h2 (mn x z) (List.mem_cons_self ..)
      rcases List.mem_cons.mp hy with h | h
      · omega
      · rcases List.mem_cons.mp h with h | h
        · omega
        · exact h2 y (List.mem_cons_of_mem _ h)
theorem maxF_spec : ∀ (xs : List Int) (x : Int), (Cor.maxF x xs ∈ x :: xs) ∧ ∀ y ∈ x :: xs, y ≤ Cor.maxF x xs
  | [], x => by simp [Cor.maxF]
  | z :: zs, x => by
    obtain ⟨h1, h2⟩ := maxF_spec zs (mx x z)
    have e : Cor.maxF x (z :: zs) = Cor.maxF (mx x z) zs := rfl
    rw [e]
    have hm : mx x z = x ∨ mx x z = z := by unfold mx; split <;> simp
    have hle : x ≤ mx x z ∧ z ≤ mx x z := by unfold mx; split <;> omega
    refine ⟨?_, ?_⟩
    · rcases List.mem_cons.mp h1 with h | h
      · rw [h]; rcases hm with h | h <;> rw [h] <;> simp
      · exact List.mem_cons_of_mem _ (List.mem_cons_of_mem _ h)
    · intro y hy
      have h0 := h2 (mx x z) (List.mem_cons_self ..)
      rcases List.mem_cons.mp hy with h | h
      · omega
      · rcases List.mem_cons.mp h with h | h
        · omega
        · exact h2 y (List.mem_cons_of_mem _ h)
theorem low_iff {l0 l1 : List Int} {i j : Nat} : spec_l2Ends.low l0 l1 i j = true ↔ rd l1 i < rd l1 j ∨ (rd l1 i = rd l1 j ∧ rd l0 i < rd l0 j) := by simp [spec_l2Ends.low]
theorem high_iff {l0 l1 : List Int} {i j : Nat} : spec_l2Ends.high l0 l1 i j = true ↔ rd l1 j < rd l1 i ∨ (rd l1 i = rd l1 j ∧ rd l0 j < rd l0 i) := by simp [spec_l2Ends.high]
/-- What holds of the two places behind i rounds. -/
def Inv (l0 l1 : List Int) (i : Nat) (s : Nat × Nat × Int) : Prop :=
  (∀ j, j < i → ¬ (rd l1 j < rd l1 s.1 ∨ (rd l1 j = rd l1 s.1 ∧ rd l0 j < rd l0 s.1))) ∧ (∀ j, j < i → ¬ (rd l1 s.2.1 < rd l1 j ∨ (rd l1 j = rd l1 s.2.1 ∧ rd l0 s.2.1 < rd l0 j))) ∧
  ((s.2.2 = 4 ∧ ∃ j, j < i ∧ rd l1 j ≠ 0) ∨ (s.2.2 = 0 ∧ ∀ j, j < i → rd l1 j = 0))
theorem st_inv (l0 l1 : List Int) : ∀ i, Inv l0 l1 i (spec_l2Ends.st l0 l1 i)
  | 0 => ⟨fun j hj => absurd hj (by omega), fun j hj => absurd hj (by omega), .inr ⟨rfl, fun j hj => absurd hj (by omega)⟩⟩
  | i + 1 => by
    obtain ⟨h1, h2, h3⟩ := st_inv l0 l1 i
    generalize hs : spec_l2Ends.st l0 l1 i = s at h1 h2 h3
    have e : spec_l2Ends.st l0 l1 (i + 1) = (if spec_l2Ends.low l0 l1 i s.1 then i else s.1, if spec_l2Ends.high l0 l1 i s.2.1 then i else s.2.1, if rd l1 i = 0 then s.2.2 else 4) := by rw [spec_l2Ends.st, hs]
    rw [e]
    refine ⟨?_, ?_, ?_⟩
    · intro j hj
      show ¬ (rd l1 j < rd l1 ((if spec_l2Ends.low l0 l1 i s.1 then i else s.1 : Nat) : Int) ∨ _)
      by_cases c : spec_l2Ends.low l0 l1 i s.1 = true
      · have c' := low_iff.mp c
        simp only [c, if_true]
        rcases Nat.lt_succ_iff_lt_or_eq.mp hj with h | rfl
        · have := h1 j h; omega
        · omega
      · have c' := fun h => c (low_iff.mpr h)
        simp only [Bool.not_eq_true] at c
        simp only [c, Bool.false_eq_true, if_false]
        rcases Nat.lt_succ_iff_lt_or_eq.mp hj with h | rfl
        · exact h1 j h
        · exact c'
    · intro j hj
      show ¬ (rd l1 ((if spec_l2Ends.high l0 l1 i s.2.1 then i else s.2.1 : Nat) : Int) < rd l1 j ∨ _)
      by_cases c : spec_l2Ends.high l0 l1 i s.2.1 = true
      · have c' := high_iff.mp c
        simp only [c, if_true]
        rcases Nat.lt_succ_iff_lt_or_eq.mp hj with h | rfl
        · have := h2 j h; omega
        · omega
      · have c' := fun h => c (high_iff.mpr h)
        simp only [Bool.not_eq_true] at c
        simp only [c, Bool.false_eq_true, if_false]
        rcases Nat.lt_succ_iff_lt_or_eq.mp hj with h | rfl
        · exact h2 j h
        · exact c'
    · show ((if rd l1 i = 0 then s.2.2 else 4) = 4 ∧ _) ∨ ((if rd l1 i = 0 then s.2.2 else 4) = 0 ∧ _)
      by_cases c : rd l1 i = 0
      · rw [if_pos c]
        rcases h3 with ⟨h, j, hj, hne⟩ | ⟨h, ha⟩
        · exact .inl ⟨h, j, by omega, hne⟩
        · refine .inr ⟨h, fun j hj => ?_⟩
          rcases Nat.lt_succ_iff_lt_or_eq.mp hj with hh | rfl
          · exact ha j hh
          · exact c
      · rw [if_neg c]
        exact .inl ⟨rfl, i, by omega, c⟩
def lowE (s : List Int × Bool × Bool) : List Int := if s.2.1 then s.1 ++ [-9223372036854775808] else s.1
def highE (s : List Int × Bool × Bool) : List Int := if s.2.2 then s.1 ++ [9223372036854775807] else s.1
def alE (s : List Int × Bool × Bool) (al : Int) : Int := if s.2.1 || s.2.2 then Go.bits .or .i64 al 4 else al
theorem valC_is (s : List Int × Bool × Bool) (al : Int) : Cor.valC s al = (match lowE s, highE s with
  | x :: xs, y :: ys => (Cor.minF x xs, Cor.maxF y ys, true, alE s al)
  | _, _ => (0, 0, false, alE s al)) := rfl
theorem lowE_mem {s : List Int × Bool × Bool} {y : Int} : y ∈ lowE s ↔ y ∈ s.1 ∨ (s.2.1 = true ∧ y = -9223372036854775808) := by
  unfold lowE
  cases s.2.1 <;> simp
theorem highE_mem {s : List Int × Bool × Bool} {y : Int} : y ∈ highE s ↔ y ∈ s.1 ∨ (s.2.2 = true ∧ y = 9223372036854775807) := by
  unfold highE
  cases s.2.2 <;> simp
theorem ends_val (l0 l1 : List Int) (n : Nat) (hn : 0 < n) (s : List Int × Bool × Bool) (hbe : s.2.1 = true ↔ ∃ j : Nat, j < n ∧ rd l1 j < 0) (hab : s.2.2 = true ↔ ∃ j : Nat, j < n ∧ 0 < rd l1 j)
    (hL : ∀ x, x ∈ s.1 ↔ ∃ j : Nat, j < n ∧ rd l1 j = 0 ∧ rd l0 j = x) (hr : ∀ j : Nat, j < n → -9223372036854775808 ≤ rd l0 j ∧ rd l0 j ≤ 9223372036854775807) :
    spec_l2Ends.fin l0 l1 (spec_l2Ends.st l0 l1 n) = Cor.valC s 0 := by
  obtain ⟨i1, i2, i3⟩ := st_inv l0 l1 n
  obtain ⟨m1, m2⟩ := spec_l2Ends.st_lt l0 l1 n hn n (Nat.le_refl _)
  generalize spec_l2Ends.st l0 l1 n = t at i1 i2 i3 m1 m2
  obtain ⟨m, M, al⟩ := t
  simp only at i1 i2 i3 m1 m2
  have eal : alE s 0 = al := by
    unfold alE
    by_cases c : s.2.1 = true ∨ s.2.2 = true
    · have cc : (s.2.1 || s.2.2) = true := by simpa using c
      rw [if_pos cc]
      rcases i3 with ⟨h, _⟩ | ⟨_, h⟩
      · rw [h]; rfl
      · exfalso
        rcases c with c | c
        · obtain ⟨j, hj, h'⟩ := hbe.mp c; have := h j hj; omega
        · obtain ⟨j, hj, h'⟩ := hab.mp c; have := h j hj; omega
    · have cc : ¬ ((s.2.1 || s.2.2) = true) := by simpa using c
      rw [if_neg cc]
      rcases i3 with ⟨_, j, hj, hne⟩ | ⟨h, _⟩
      · exfalso
        rcases Int.lt_trichotomy (rd l1 j) 0 with h | h | h
        · exact c (.inl (hbe.mpr ⟨j, hj, h⟩))
        · exact hne h
        · exact c (.inr (hab.mpr ⟨j, hj, h⟩))
      · exact h.symm
  have lowk : (lowE s = [] → 0 < rd l1 m) ∧ (∀ x xs, lowE s = x :: xs → rd l1 m ≤ 0 ∧ (if rd l1 m < 0 then -9223372036854775808 else rd l0 m) = Cor.minF x xs) := by
    refine ⟨fun h => ?_, fun x xs h => ?_⟩
    · rcases Int.lt_trichotomy (rd l1 m) 0 with c | c | c
      · exact absurd (lowE_mem.mpr (.inr ⟨hbe.mpr ⟨m, m1, c⟩, rfl⟩)) (by rw [h]; simp)
      · exact absurd (lowE_mem.mpr (.inl ((hL _).mpr ⟨m, m1, c, rfl⟩))) (by rw [h]; simp)
      · exact c
    · obtain ⟨q1, q2⟩ := minF_spec xs x
      rw [← h] at q1 q2
      have hx : x ∈ lowE s := by rw [h]; simp
      have hle : rd l1 m ≤ 0 := by
        rcases lowE_mem.mp hx with c | ⟨c, _⟩
        · obtain ⟨j, hj, h0, _⟩ := (hL _).mp c; have := i1 j hj; omega
        · obtain ⟨j, hj, h0⟩ := hbe.mp c; have := i1 j hj; omega
      refine ⟨hle, ?_⟩
      by_cases c : rd l1 m < 0
      · rw [if_pos c]
        have g1 := q2 _ (lowE_mem.mpr (.inr ⟨hbe.mpr ⟨m, m1, c⟩, rfl⟩))
        rcases lowE_mem.mp q1 with g | ⟨_, g⟩
        · obtain ⟨j, hj, _, e⟩ := (hL _).mp g; have := hr j hj; omega
        · omega
      · rw [if_neg c]
        have g1 := q2 _ (lowE_mem.mpr (.inl ((hL _).mpr ⟨m, m1, by omega, rfl⟩)))
        rcases lowE_mem.mp q1 with g | ⟨g, _⟩
        · obtain ⟨j, hj, z, e⟩ := (hL _).mp g; have := i1 j hj; omega
        · obtain ⟨j, hj, h0⟩ := hbe.mp g; have := i1 j hj; omega
  have highk : (highE s = [] → rd l1 M < 0) ∧ (∀ x xs, highE s = x :: xs → 0 ≤ rd l1 M ∧ (if 0 < rd l1 M then 9223372036854775807 else rd l0 M) = Cor.maxF x xs) := by
    refine ⟨fun h => ?_, fun x xs h => ?_⟩
    · rcases Int.lt_trichotomy (rd l1 M) 0 with c | c | c
      · exact c
      · exact absurd (highE_mem.mpr (.inl ((hL _).mpr ⟨M, m2, c, rfl⟩))) (by rw [h]; simp)
      · exact absurd (highE_mem.mpr (.inr ⟨hab.mpr ⟨M, m2, c⟩, rfl⟩)) (by rw [h]; simp)
    · obtain ⟨q1, q2⟩ := maxF_spec xs x
      rw [← h] at q1 q2
      have hx : x ∈ highE s := by rw [h]; simp
      have hle : 0 ≤ rd l1 M := by
        rcases highE_mem.mp hx with c | ⟨c, _⟩
        · obtain ⟨j, hj, h0, _⟩ := (hL _).mp c; have := i2 j hj; omega
        · obtain ⟨j, hj, h0⟩ := hab.mp c; have := i2 j hj; omega
      refine ⟨hle, ?_⟩
      by_cases c : 0 < rd l1 M
      · rw [if_pos c]
        have g1 := q2 _ (highE_mem.mpr (.inr ⟨hab.mpr ⟨M, m2, c⟩, rfl⟩))
        rcases highE_mem.mp q1 with g | ⟨_, g⟩
        · obtain ⟨j, hj, _, e⟩ := (hL _).mp g; have := hr j hj; omega
        · omega
      · rw [if_neg c]
        have g1 := q2 _ (highE_mem.mpr (.inl ((hL _).mpr ⟨M, m2, by omega, rfl⟩)))
        rcases highE_mem.mp q1 with g | ⟨g, _⟩
        · obtain ⟨j, hj, z, e⟩ := (hL _).mp g; have := i2 j hj; omega
        · obtain ⟨j, hj, h0⟩ := hab.mp g; have := i2 j hj; omega
  rw [valC_is, eal]
  show (if 0 < rd l1 m ∨ rd l1 M < 0 then (0, 0, false, al) else (if rd l1 m < 0 then -9223372036854775808 else rd l0 m, if 0 < rd l1 M then 9223372036854775807 else rd l0 M, true, al)) = _
  cases hlow : lowE s with
  | nil => rw [if_pos (.inl (lowk.1 hlow))]
  | cons x xs =>
    obtain ⟨a1, a2⟩ := lowk.2 x xs hlow
    cases hhigh : highE s with
    | nil => rw [if_pos (.inr (highk.1 hhigh))]
    | cons y ys =>
      obtain ⟨b1, b2⟩ := highk.2 y ys hhigh
      rw [if_neg (by omega), a2, b2]
/-- The marks and the list behind some pairs. -/
theorem fold_spec : ∀ (ps : List (Int × Int)) (s : List Int × Bool × Bool), (((ps.foldl (fun s p => Cor.addC s p.1 p.2) s).2.1 = true ↔ s.2.1 = true ∨ ∃ p ∈ ps, p.2 < 0) ∧ ((ps.foldl (fun s p => Cor.addC s p.1 p.2) s).2.2 = true ↔ s.2.2 = true ∨ ∃ p ∈ ps, 0 < p.2)) ∧
    ∀ x, x ∈ (ps.foldl (fun s p => Cor.addC s p.1 p.2) s).1 ↔ x ∈ s.1 ∨ ∃ p ∈ ps, p.2 = 0 ∧ p.1 = x
  | [], s => by simp
  | p :: ps, s => by
    obtain ⟨⟨h1, h2⟩, h3⟩ := fold_spec ps (Cor.addC s p.1 p.2)
    rw [List.foldl_cons]
    rcases Int.lt_trichotomy p.2 0 with c | c | c
    · have e : Cor.addC s p.1 p.2 = (s.1, true, s.2.2) := if_pos c
      rw [e] at h1 h2 h3 ⊢
      refine ⟨⟨by rw [h1]; simp [c], by rw [h2]; simp [show ¬ 0 < p.2 by omega]⟩, fun x => by rw [h3]; simp [show ¬ p.2 = 0 by omega]⟩
    · have e : Cor.addC s p.1 p.2 = (s.1 ++ [p.1], s.2.1, s.2.2) := (if_neg (by omega)).trans (if_neg (by omega))
      rw [e] at h1 h2 h3 ⊢
      refine ⟨⟨by rw [h1]; simp [c], by rw [h2]; simp [c]⟩, fun x => by rw [h3]; simp [c, or_assoc, eq_comm]⟩
    · have e : Cor.addC s p.1 p.2 = (s.1, s.2.1, true) := (if_neg (by omega)).trans (if_pos c)
      rw [e] at h1 h2 h3 ⊢
      refine ⟨⟨by rw [h1]; simp [show ¬ p.2 < 0 by omega], by rw [h2]; simp [c]⟩, fun x => by rw [h3]; simp [show ¬ p.2 = 0 by omega]⟩
theorem ex_idx (ps : List (Int × Int)) (P : Int → Int → Prop) : (∃ j : Nat, j < ps.length ∧ P (rd (ps.map (·.1)) j) (rd (ps.map (·.2)) j)) ↔ ∃ p ∈ ps, P p.1 p.2 := by
  have key : ∀ (j : Nat) (h : j < ps.length), rd (ps.map (·.1)) j = ps[j].1 ∧ rd (ps.map (·.2)) j = ps[j].2 := by
    intro j h
    unfold rd
    simp [List.getD_eq_getElem?_getD, h]
  constructor
  · rintro ⟨j, hj, h⟩
    rw [(key j hj).1, (key j hj).2] at h
    exact ⟨ps[j], List.getElem_mem _, h⟩
  · rintro ⟨p, hp, h⟩
    obtain ⟨j, hj, rfl⟩ := List.mem_iff_getElem.mp hp
    exact ⟨j, hj, by rw [(key j hj).1, (key j hj).2]; exact h⟩
/-- The ends of pairs, in whatever order they are taken up. -/
theorem ends_pairs (ps qs : List (Int × Int)) (hne : ps ≠ []) (hle : ps.length ≤ 1000) (hpq : ∀ p, p ∈ ps ↔ p ∈ qs) (hr : ∀ p ∈ ps, -9223372036854775808 ≤ p.1 ∧ p.1 ≤ 9223372036854775807) :
    spec_l2Ends.f (ps.map (·.1)) (ps.map (·.2)) = some (Cor.valC (qs.foldl (fun s p => Cor.addC s p.1 p.2) ([], false, false)) 0) := by
  have hn : 0 < ps.length := List.length_pos_iff.mpr hne
  obtain ⟨⟨f1, f2⟩, f3⟩ := fold_spec qs ([], false, false)
  unfold spec_l2Ends.f
  rw [if_pos (by simpa using hle)]
  simp only [List.length_map]
  rw [if_neg (by omega), ends_val _ _ _ hn _ ?_ ?_ ?_ ?_]
  · rw [f1]
    have := ex_idx ps (fun _ o => o < 0)
    simp only [this, hpq, Bool.false_eq_true, false_or]
  · rw [f2]
    have := ex_idx ps (fun _ o => 0 < o)
    simp only [this, hpq, Bool.false_eq_true, false_or]
  · intro x
    rw [f3]
    have := ex_idx ps (fun n o => o = 0 ∧ n = x)
    simp only [this, hpq, List.not_mem_nil, false_or]
  · intro j hj
    have h := (ex_idx ps (fun n _ => ¬ (-9223372036854775808 ≤ n ∧ n ≤ 9223372036854775807)))
    by_cases c : -9223372036854775808 ≤ rd (ps.map (·.1)) j ∧ rd (ps.map (·.1)) j ≤ 9223372036854775807
    · exact c
    · obtain ⟨p, hp, hh⟩ := h.mp ⟨j, hj, c⟩
      exact absurd (hr p hp) hh

/-- A whole number as the program tells it: where it does not fit, the side. -/
def cl (r : Int) : Int × Int := if 9223372036854775807 < r then (0, 1) else if r < -9223372036854775808 then (0, -1) else (r, 0)
def clA (m M al : Int) : Int := if m < -9223372036854775808 ∨ 9223372036854775807 < M then Go.bits .or .i64 al 4 else al
/-- What lies between m and M, cut at the last numbers, with the alarm. -/
def clV (m M al : Int) : Int × Int × Bool × Int :=
  if 9223372036854775807 < m ∨ M < -9223372036854775808 then (0, 0, false, clA m M al) else (if m < -9223372036854775808 then -9223372036854775808 else m, if 9223372036854775807 < M then 9223372036854775807 else M, true, clA m M al)
theorem cl_cases (r : Int) : (9223372036854775807 < r ∧ cl r = (0, 1)) ∨ (r < -9223372036854775808 ∧ cl r = (0, -1)) ∨ (-9223372036854775808 ≤ r ∧ r ≤ 9223372036854775807 ∧ cl r = (r, 0)) := by
  unfold cl
  by_cases h1 : 9223372036854775807 < r
  · rw [if_pos h1]; exact .inl ⟨h1, rfl⟩
  · rw [if_neg h1]
    by_cases h2 : r < -9223372036854775808
    · rw [if_pos h2]; exact .inr (.inl ⟨h2, rfl⟩)
    · rw [if_neg h2]; exact .inr (.inr ⟨by omega, by omega, rfl⟩)
def Between (m M : Int) (rs : List Int) : Prop := m ∈ rs ∧ (∀ r ∈ rs, m ≤ r) ∧ M ∈ rs ∧ ∀ r ∈ rs, r ≤ M
theorem between_some : ∀ (rs : List Int), rs ≠ [] → ∃ m M, Between m M rs
  | [], h => absurd rfl h
  | x :: xs, _ => ⟨_, _, (minF_spec xs x).1, (minF_spec xs x).2, (maxF_spec xs x).1, (maxF_spec xs x).2⟩
theorem valC_real (rs : List Int) (m M al : Int) (h : Between m M rs) :
    Cor.valC ((rs.map cl).foldl (fun s p => Cor.addC s p.1 p.2) ([], false, false)) al = clV m M al := by
  obtain ⟨hm, hm', hM, hM'⟩ := h
  obtain ⟨⟨f1, f2⟩, f3⟩ := fold_spec (rs.map cl) ([], false, false)
  generalize (rs.map cl).foldl (fun s p => Cor.addC s p.1 p.2) ([], false, false) = s at f1 f2 f3
  have g1 : s.2.1 = true ↔ m < -9223372036854775808 := by
    rw [f1]
    constructor
    · rintro (h | ⟨p, hp, h⟩)
      · exact absurd h (by simp)
      · obtain ⟨r, hr, rfl⟩ := List.mem_map.mp hp
        have := hm' r hr
        rcases cl_cases r with ⟨c, e⟩ | ⟨c, e⟩ | ⟨c, c', e⟩ <;> rw [e] at h <;> simp at h; omega
    · intro h
      refine .inr ⟨cl m, List.mem_map.mpr ⟨m, hm, rfl⟩, ?_⟩
      rcases cl_cases m with ⟨c, e⟩ | ⟨c, e⟩ | ⟨c, c', e⟩ <;> rw [e]
      · omega
      · decide
      · omega
  have g2 : s.2.2 = true ↔ 9223372036854775807 < M := by
    rw [f2]
    constructor
    · rintro (h | ⟨p, hp, h⟩)
      · exact absurd h (by simp)
      · obtain ⟨r, hr, rfl⟩ := List.mem_map.mp hp
        have := hM' r hr
        rcases cl_cases r with ⟨c, e⟩ | ⟨c, e⟩ | ⟨c, c', e⟩ <;> rw [e] at h <;> simp at h; omega
    · intro h
      refine .inr ⟨cl M, List.mem_map.mpr ⟨M, hM, rfl⟩, ?_⟩
      rcases cl_cases M with ⟨c, e⟩ | ⟨c, e⟩ | ⟨c, c', e⟩ <;> rw [e]
      · decide
      · omega
      · omega
  have g3 : ∀ x, x ∈ s.1 ↔ x ∈ rs ∧ -9223372036854775808 ≤ x ∧ x ≤ 9223372036854775807 := by
    intro x
    rw [f3]
    constructor
    · rintro (h | ⟨p, hp, h, hx⟩)
      · exact absurd h (by simp)
      · obtain ⟨r, hr, rfl⟩ := List.mem_map.mp hp
        rcases cl_cases r with ⟨c, e⟩ | ⟨c, e⟩ | ⟨c, c', e⟩
        · rw [e] at h; simp at h
        · rw [e] at h; simp at h
        · rw [e] at hx; simp only at hx; subst hx; exact ⟨hr, c, c'⟩
    · rintro ⟨hr, h1, h2⟩
      refine .inr ⟨cl x, List.mem_map.mpr ⟨x, hr, rfl⟩, ?_⟩
      rcases cl_cases x with ⟨c, e⟩ | ⟨c, e⟩ | ⟨c, c', e⟩
      · omega
      · omega
      · rw [e]; exact ⟨rfl, rfl⟩
  clear f1 f2 f3
  have ea : alE s al = clA m M al := by
    unfold alE clA
    by_cases c : m < -9223372036854775808 ∨ 9223372036854775807 < M
    · rw [if_pos c, if_pos (by rw [Bool.or_eq_true]; exact c.imp g1.mpr g2.mpr)]
    · rw [if_neg c, if_neg (by rw [Bool.or_eq_true]; exact fun h => c (h.imp g1.mp g2.mp))]
  have low : (9223372036854775807 < m → lowE s = []) ∧ (m ≤ 9223372036854775807 → (if m < -9223372036854775808 then -9223372036854775808 else m) ∈ lowE s ∧ ∀ y ∈ lowE s, (if m < -9223372036854775808 then -9223372036854775808 else m) ≤ y) := by
    refine ⟨fun h => ?_, fun h => ⟨?_, fun y hy => ?_⟩⟩
    · rw [List.eq_nil_iff_forall_not_mem]
      intro y hy
      rcases lowE_mem.mp hy with c | ⟨c, _⟩
      · have := (g3 y).mp c; have := hm' y this.1; omega
      · have := g1.mp c; omega
    · by_cases c : m < -9223372036854775808
      · rw [if_pos c]; exact lowE_mem.mpr (.inr ⟨g1.mpr c, rfl⟩)
      · rw [if_neg c]; exact lowE_mem.mpr (.inl ((g3 m).mpr ⟨hm, by omega, h⟩))
    · rcases lowE_mem.mp hy with c | ⟨c, e⟩
      · have c := (g3 y).mp c; have := hm' y c.1; split <;> omega
      · have := g1.mp c; rw [if_pos this]; omega
  have high : (M < -9223372036854775808 → highE s = []) ∧ (-9223372036854775808 ≤ M → (if 9223372036854775807 < M then 9223372036854775807 else M) ∈ highE s ∧ ∀ y ∈ highE s, y ≤ (if 9223372036854775807 < M then 9223372036854775807 else M)) := by
    refine ⟨fun h => ?_, fun h => ⟨?_, fun y hy => ?_⟩⟩
    · rw [List.eq_nil_iff_forall_not_mem]
      intro y hy
      rcases highE_mem.mp hy with c | ⟨c, _⟩
      · have := (g3 y).mp c; have := hM' y this.1; omega
      · have := g2.mp c; omega
    · by_cases c : 9223372036854775807 < M
      · rw [if_pos c]; exact highE_mem.mpr (.inr ⟨g2.mpr c, rfl⟩)
      · rw [if_neg c]; exact highE_mem.mpr (.inl ((g3 M).mpr ⟨hM, by omega, by omega⟩))
    · rcases highE_mem.mp hy with c | ⟨c, e⟩
      · have c := (g3 y).mp c; have := hM' y c.1; split <;> omega
      · have := g2.mp c; rw [if_pos this]; omega
  rw [valC_is, ea]
  unfold clV
  by_cases c1 : 9223372036854775807 < m
  · rw [low.1 c1, if_pos (.inl c1)]
  · by_cases c2 : M < -9223372036854775808
    · rw [high.1 c2, if_pos (.inr c2)]
      cases lowE s <;> rfl
    · rw [if_neg (by omega)]
      obtain ⟨l1, l2⟩ := low.2 (by omega)
      obtain ⟨h1, h2⟩ := high.2 (by omega)
      cases hl : lowE s with
      | nil => rw [hl] at l1; simp at l1
      | cons x xs =>
        cases hh : highE s with
        | nil => rw [hh] at h1; simp at h1
        | cons y ys =>
          obtain ⟨q1, q2⟩ := minF_spec xs x
          obtain ⟨q3, q4⟩ := maxF_spec ys y
          rw [hl] at l1 l2
          rw [hh] at h1 h2
          have e1 := Int.le_antisymm (q2 _ l1) (l2 _ q1)
          have e2 := Int.le_antisymm (h2 _ q3) (q4 _ h1)
          show (Cor.minF x xs, Cor.maxF y ys, true, clA m M al) = _
          rw [e1, e2]
theorem clV_in {m M : Int} (al : Int) (h1 : -9223372036854775808 ≤ m) (h2 : m ≤ 9223372036854775807) (h3 : -9223372036854775808 ≤ M) (h4 : M ≤ 9223372036854775807) : clV m M al = (m, M, true, al) := by
  unfold clV clA
  rw [if_neg (by omega), if_neg (by omega), if_neg (by omega), if_neg (by omega)]

theorem box_round (k : Nat) (op : Int) (F : Int → Int → Int × Int) (x2 : List S25) (x7 x8 : List Int) (x9 a b c d : Int) (h7 : x7.length ≤ 100) (h8 : x8.length ≤ 100)
    (h0 : spec_l2Corner.f op a c = some (F a c)) (h1 : spec_l2Corner.f op b c = some (F b c)) (h2 : spec_l2Corner.f op a d = some (F a d)) (h3 : spec_l2Corner.f op b d = some (F b d)) :
    spec_l2Box.l1 (k + 5) op x2 x7 x8 x9 0 a b c d = spec_l2Box.l0 k op x2 (x7 ++ [(F a c).1, (F b c).1, (F a d).1, (F b d).1]) (x8 ++ [(F a c).2, (F b c).2, (F a d).2, (F b d).2]) (wrap64 (x9 + 1)) a b := by
  have st : ∀ (k : Nat) (i x y : Int) (z7 z8 : List Int), i < 4 → 0 ≤ Int.tmod i 2 → Int.tmod i 2 < 2 → 0 ≤ wrap64 (Int.tdiv i 2) → wrap64 (Int.tdiv i 2) < 2 → rd [a, b] (Int.tmod i 2) = x → rd [c, d] (wrap64 (Int.tdiv i 2)) = y → spec_l2Corner.f op x y = some (F x y) → z7.length ≤ 200 → z8.length ≤ 200 →
      spec_l2Box.l1 (k + 1) op x2 z7 z8 x9 i a b c d = spec_l2Box.l1 k op x2 (z7 ++ [(F x y).1]) (z8 ++ [(F x y).2]) x9 (wrap64 (i + 1)) a b c d := by
    intro k i x y z7 z8 g0 g1 g2 g3 g4 g5 g6 g7 g8 g9
    rw [spec_l2Box.l1]
    simp only [Option.bind_some, List.length_cons, List.length_nil]
    rw [if_pos g0, if_pos g1, if_pos (by omega), if_pos g3, if_pos (by omega), g5, g6, g7]
    simp only [Option.bind_some]
    rw [if_pos (by omega), if_pos (by omega)]
  rw [st (k + 4) 0 a c x7 x8 (by decide +kernel) (by decide +kernel) (by decide +kernel) (by decide +kernel) (by decide +kernel) rfl (by rw [show wrap64 (Int.tdiv 0 2) = 0 from by decide +kernel]; rfl) h0 (by omega) (by omega)]
  rw [show wrap64 (0 + 1) = 1 from by decide +kernel]
  rw [st (k + 3) 1 b c _ _ (by decide +kernel) (by decide +kernel) (by decide +kernel) (by decide +kernel) (by decide +kernel) rfl (by rw [show wrap64 (Int.tdiv 1 2) = 0 from by decide +kernel]; rfl) h1 (by simp; omega) (by simp; omega)]
  rw [show wrap64 (1 + 1) = 2 from by decide +kernel]
  rw [st (k + 2) 2 a d _ _ (by decide +kernel) (by decide +kernel) (by decide +kernel) (by decide +kernel) (by decide +kernel) rfl (by rw [show wrap64 (Int.tdiv 2 2) = 1 from by decide +kernel]; rfl) h2 (by simp; omega) (by simp; omega)]
  rw [show wrap64 (2 + 1) = 3 from by decide +kernel]
  rw [st (k + 1) 3 b d _ _ (by decide +kernel) (by decide +kernel) (by decide +kernel) (by decide +kernel) (by decide +kernel) rfl (by rw [show wrap64 (Int.tdiv 3 2) = 1 from by decide +kernel]; rfl) h3 (by simp; omega) (by simp; omega)]
  rw [show wrap64 (3 + 1) = 4 from by decide +kernel]
  rw [spec_l2Box.l1, if_neg (by decide)]
  simp only [List.append_assoc, List.singleton_append, List.cons_append, List.nil_append]

/-- What two intervals have in common. -/
def meetV (a b c d : Int) : Int × Int × Bool := if a ≤ b ∧ c ≤ d ∧ mx a c ≤ mn b d then (mx a c, mn b d, true) else (0, 0, false)
theorem impl_IvMeet_is (a b c d : Int) : impl_IvMeet.f a b c d = some (meetV a b c d) := by
  simp only [impl_IvMeet.f, impl_areIvs.f, impl_IvOk.f, meetV, Option.bind_some]
  by_cases h0 : a ≤ b <;> by_cases h1 : c ≤ d <;> by_cases h2 : mx a c ≤ mn b d <;> simp [h0, h1, h2]

/-- What is below 0 of a right interval, and what is above. -/
def partsV (c d : Int) : List S25 := (if c < 0 then [⟨c, mn d (-1)⟩] else []) ++ (if 0 < d then [⟨mx c 1, d⟩] else [])
theorem parts_is (c d : Int) : spec_l2Parts.f c d = some (partsV c d) := by
  unfold spec_l2Parts.f partsV
  by_cases h1 : c < 0 <;> by_cases h2 : 0 < d <;> simp [h1, h2]
theorem has_is (c d n : Int) : impl_Interval_has.f c d n = some (decide (c ≤ n ∧ n ≤ d)) := by
  unfold impl_Interval_has.f impl_within.f
  by_cases h1 : c ≤ n <;> by_cases h2 : n ≤ d <;> simp [h1, h2]
theorem divisors_is (k : Nat) (hk : 1 ≤ k) (c d : Int) (hcd : c ≤ d) (hc : -9223372036854775808 ≤ c) (hd : d ≤ 9223372036854775807) : impl_divisors.f k c d = some (partsV c d, if c ≤ 0 ∧ 0 ≤ d then 1 else 0) := by
  obtain ⟨k, rfl⟩ : ∃ m, k = m + 1 := ⟨k - 1, by omega⟩
  have m1 : meetV c d (-9223372036854775808) (-1) = if c < 0 then (c, mn d (-1), true) else (0, 0, false) := by
    have e1 : mx c (-9223372036854775808) = c := by unfold mx; split <;> omega
    unfold meetV
    rw [e1]
    by_cases h : c < 0
    · rw [if_pos ⟨hcd, by omega, by unfold mn; split <;> omega⟩, if_pos h]
    · rw [if_neg (fun x => h (by have := x.2.2; unfold mn at this; split at this <;> omega)), if_neg h]
  have m2 : meetV c d 1 9223372036854775807 = if 0 < d then (mx c 1, d, true) else (0, 0, false) := by
    have e1 : mn d 9223372036854775807 = d := by unfold mn; split <;> omega
    unfold meetV
    rw [e1]
    by_cases h : 0 < d
    · rw [if_pos ⟨hcd, by omega, by unfold mx; split <;> omega⟩, if_pos h]
    · rw [if_neg (fun x => h (by have := x.2.2; unfold mx at this; split at this <;> omega)), if_neg h]
  have j : ∀ l : List S25, l.length ≤ 10 → impl_divisors.j0 (k + 1) l c d = some (l ++ (if 0 < d then [⟨mx c 1, d⟩] else []), if c ≤ 0 ∧ 0 ≤ d then 1 else 0) := by
    intro l hl
    rw [impl_divisors.j0]
    simp only [impl_IvMeet_is, m2, has_is, Option.bind_some]
    by_cases h : 0 < d
    · rw [if_pos h, if_pos h]
      simp only [if_true]
      rw [if_pos (by omega)]
      by_cases g : c ≤ 0 ∧ 0 ≤ d <;> simp [g]
    · rw [if_neg h, if_neg h]
      by_cases g : c ≤ 0 ∧ 0 ≤ d <;> simp [g]
  unfold impl_divisors.f partsV
  simp only [impl_IvMeet_is, m1, Option.bind_some]
  by_cases h : c < 0
  · rw [if_pos h, if_pos h]
    simp only [if_true]
    rw [if_pos (by simp), j _ (by simp)]
    rfl
  · rw [if_neg h, if_neg h]
    simp only [Bool.false_eq_true, if_false]
    rw [j _ (by simp)]

theorem spec_NumSub_is {a b : Int} (ha : -9223372036854775808 ≤ a ∧ a ≤ 9223372036854775807) (hb : -9223372036854775808 ≤ b ∧ b ≤ 9223372036854775807) :
    spec_NumSub.f a b = some (Math.subV a b) := by
  unfold spec_NumSub.f
  rw [if_pos ⟨ha, hb⟩]

theorem spec_NumQuo_is {a b : Int} (ha : -9223372036854775808 ≤ a ∧ a ≤ 9223372036854775807) :
    spec_NumQuo.f a b = some (Math.quoV a b) := by
  unfold spec_NumQuo.f Math.quoV
  by_cases h0 : b = 0
  · rw [if_pos h0, if_pos h0]
  · rw [if_neg h0, if_neg h0]
    by_cases h1 : b = -1
    · subst h1
      rw [if_pos rfl, spec_NumSub_is (by omega) ha]
      simp only [Option.bind_some, Math.subV]
      by_cases h2 : a = -9223372036854775808
      · subst h2; simp
      · rw [if_neg (by omega), if_neg (by omega), if_neg (by omega)]
        simp
    · have hn : ¬ (a = -9223372036854775808 ∧ b = -1) := fun h => h1 h.2
      have hi := Math.tdiv_in ha.1 ha.2 hn
      rw [if_neg h1, if_neg hn, Math.w64_id hi.1 hi.2]

theorem quoV_in {x : Int} (y : Int) (hx : -9223372036854775808 ≤ x ∧ x ≤ 9223372036854775807) : -9223372036854775808 ≤ (Math.quoV x y).1 ∧ (Math.quoV x y).1 ≤ 9223372036854775807 := by
  unfold Math.quoV
  split
  · simp
  · split
    · simp
    · rename_i h1 h2
      exact Math.tdiv_in hx.1 hx.2 h2
theorem quo_corner {x : Int} (y : Int) (hx : -9223372036854775808 ≤ x ∧ x ≤ 9223372036854775807) : spec_l2Corner.f 47 x y = some (Math.quoV x y) := by
  unfold spec_l2Corner.f
  rw [if_neg (by decide), if_neg (by decide), if_neg (by decide), spec_NumQuo_is hx]
  rfl
theorem eta4 (o : Option (Int × Int × Bool × Int)) : (o.bind fun b => some (b.1, b.2.1, b.2.2.1, b.2.2.2)) = o := by cases o <;> rfl
theorem quo_val (a b : Int) (l : List S25) (hl : l.length ≤ 2) (ha : -9223372036854775808 ≤ a ∧ a ≤ 9223372036854775807) (hb : -9223372036854775808 ≤ b ∧ b ≤ 9223372036854775807) :
    spec_l2Box.f 20 47 a b l = some (Cor.valC (ByCor.quoS Math.quoV a b (impl_IvQuo.ds l) l.length) 0) := by
  have fa := fun y => quo_corner y ha
  have fb := fun y => quo_corner y hb
  match l, hl with
  | [], _ =>
    unfold spec_l2Box.f
    rw [spec_l2Box.l0, if_neg (by simp), eta4]
    rfl
  | [⟨c, d⟩], _ =>
    have e := ends_pairs [Math.quoV a c, Math.quoV b c, Math.quoV a d, Math.quoV b d] [Math.quoV a c, Math.quoV a d, Math.quoV b c, Math.quoV b d] (by simp) (by simp) (by intro p; constructor <;> (intro h; simp only [List.mem_cons, List.not_mem_nil, or_false] at h ⊢; rcases h with h | h | h | h <;> simp [h]))
      (by intro p hp; simp only [List.mem_cons, List.not_mem_nil, or_false] at hp; rcases hp with rfl | rfl | rfl | rfl <;> first | exact quoV_in _ ha | exact quoV_in _ hb)
    unfold spec_l2Box.f
    rw [spec_l2Box.l0, if_pos (by simp), if_pos (by decide)]
    show spec_l2Box.l1 (14 + 5) 47 _ [] [] 0 0 a b c d = _
    rw [box_round 14 47 Math.quoV _ [] [] 0 a b c d (by simp) (by simp) (fa c) (fb c) (fa d) (fb d)]
    rw [spec_l2Box.l0, show wrap64 (0 + 1) = 1 from by decide +kernel, if_neg (by simp), eta4]
    simp only [List.nil_append]
    simp only [List.map_cons, List.map_nil] at e
    rw [e]
    rfl
  | [⟨c, d⟩, ⟨c2, d2⟩], _ =>
    have e := ends_pairs [Math.quoV a c, Math.quoV b c, Math.quoV a d, Math.quoV b d, Math.quoV a c2, Math.quoV b c2, Math.quoV a d2, Math.quoV b d2] [Math.quoV a c, Math.quoV a d, Math.quoV b c, Math.quoV b d, Math.quoV a c2, Math.quoV a d2, Math.quoV b c2, Math.quoV b d2] (by simp) (by simp)
      (by intro p; constructor <;> (intro h; simp only [List.mem_cons, List.not_mem_nil, or_false] at h ⊢; rcases h with h | h | h | h | h | h | h | h <;> simp [h]))
      (by intro p hp; simp only [List.mem_cons, List.not_mem_nil, or_false] at hp; rcases hp with rfl | rfl | rfl | rfl | rfl | rfl | rfl | rfl <;> first | exact quoV_in _ ha | exact quoV_in _ hb)
    unfold spec_l2Box.f
    rw [spec_l2Box.l0, if_pos (by simp), if_pos (by decide)]
    show spec_l2Box.l1 (14 + 5) 47 _ [] [] 0 0 a b c d = _
    rw [box_round 14 47 Math.quoV _ [] [] 0 a b c d (by simp) (by simp) (fa c) (fb c) (fa d) (fb d)]
    rw [spec_l2Box.l0, show wrap64 (0 + 1) = 1 from by decide +kernel, if_pos (by simp), if_pos (by decide)]
    show spec_l2Box.l1 (8 + 5) 47 _ _ _ 1 0 a b c2 d2 = _
    rw [box_round 8 47 Math.quoV _ _ _ 1 a b c2 d2 (by simp) (by simp) (fa c2) (fb c2) (fa d2) (fb d2)]
    rw [spec_l2Box.l0, show wrap64 (1 + 1) = 2 from by decide +kernel, if_neg (by simp), eta4]
    simp only [List.nil_append, List.cons_append]
    simp only [List.map_cons, List.map_nil] at e
    rw [e]
    rfl
theorem valC_al (s : List Int × Bool × Bool) : Cor.valC s 1 = ((Cor.valC s 0).1, (Cor.valC s 0).2.1, (Cor.valC s 0).2.2.1, Go.bits .or .i64 (Cor.valC s 0).2.2.2 1) := by
  have h : alE s 1 = Go.bits .or .i64 (alE s 0) 1 := by
    unfold alE
    cases (s.2.1 || s.2.2)
    · rfl
    · rfl
  rw [valC_is, valC_is, h]
  cases lowE s <;> cases highE s <;> rfl
theorem quo_impl (a b c d : Int) (ha : -9223372036854775808 ≤ a ∧ a ≤ 9223372036854775807) (hb : -9223372036854775808 ≤ b ∧ b ≤ 9223372036854775807) (hc : -9223372036854775808 ≤ c ∧ c ≤ 9223372036854775807) (hd : -9223372036854775808 ≤ d ∧ d ≤ 9223372036854775807) (g1 : a ≤ b) (g2 : c ≤ d) :
    impl_IvQuo.f a b c d = some (Cor.valC (ByCor.quoS Math.quoV a b (impl_IvQuo.ds (partsV c d)) (partsV c d).length) (if c ≤ 0 ∧ 0 ≤ d then 1 else 0)) := by
  have hl : (partsV c d).length ≤ 2 := by unfold partsV; split <;> split <;> simp
  have hbd : ∀ x ∈ partsV c d, (-9223372036854775808 ≤ x.f0 ∧ x.f0 ≤ 9223372036854775807) ∧ (-9223372036854775808 ≤ x.f1 ∧ x.f1 ≤ 9223372036854775807) := by
    intro x hx
    have m1 : -9223372036854775808 ≤ mn d (-1) ∧ mn d (-1) ≤ 9223372036854775807 := by unfold mn; split <;> omega
    have m2 : -9223372036854775808 ≤ mx c 1 ∧ mx c 1 ≤ 9223372036854775807 := by unfold mx; split <;> omega
    unfold partsV at hx
    rcases List.mem_append.mp hx with h | h
    · split at h
      · rw [List.mem_singleton] at h; subst h; exact ⟨hc, m1⟩
      · simp at h
    · split at h
      · rw [List.mem_singleton] at h; subst h; exact ⟨m2, hd⟩
      · simp at h
  have hi : ∀ i, i < (partsV c d).length → (-9223372036854775808 ≤ ((impl_IvQuo.ds (partsV c d)).getD i (0, 0)).1 ∧ ((impl_IvQuo.ds (partsV c d)).getD i (0, 0)).1 ≤ 9223372036854775807) ∧ (-9223372036854775808 ≤ ((impl_IvQuo.ds (partsV c d)).getD i (0, 0)).2 ∧ ((impl_IvQuo.ds (partsV c d)).getD i (0, 0)).2 ≤ 9223372036854775807) := by
    intro i h
    have e : (impl_IvQuo.ds (partsV c d)).getD i (0, 0) = ((partsV c d)[i].f0, (partsV c d)[i].f1) := by
      unfold impl_IvQuo.ds
      simp [List.getD_eq_getElem?_getD, h]
    rw [e]
    exact hbd _ (List.getElem_mem _)
  unfold impl_IvQuo.f
  rw [if_pos ⟨ha, hb, hc, hd⟩, if_pos ⟨g1, g2⟩, divisors_is 1 (by omega) c d g2 hc.1 hd.2]
  simp only [Option.bind_some]
  rw [if_pos ⟨hl, hi⟩]
theorem quo_same (a b c d : Int) (ha : -9223372036854775808 ≤ a ∧ a ≤ 9223372036854775807) (hb : -9223372036854775808 ≤ b ∧ b ≤ 9223372036854775807) (hc : -9223372036854775808 ≤ c ∧ c ≤ 9223372036854775807) (hd : -9223372036854775808 ≤ d ∧ d ≤ 9223372036854775807) : ∃ v, spec_IvQuo.f 21 a b c d = some v ∧ impl_IvQuo.f a b c d = some v := by
  by_cases g : a ≤ b ∧ c ≤ d
  · obtain ⟨g1, g2⟩ := g
    have hl : (partsV c d).length ≤ 2 := by unfold partsV; split <;> split <;> simp
    have e2 := quo_impl a b c d ha hb hc hd g1 g2
    have eh : spec_IvHas.f c d 0 = some (decide (c ≤ 0 ∧ 0 ≤ d)) := by
      unfold spec_IvHas.f
      by_cases h1 : c ≤ 0 <;> by_cases h2 : 0 ≤ d <;> simp [h1, h2]
    refine ⟨_, ?_, e2⟩
    unfold spec_IvQuo.f
    simp only [spec_IvOk.f, Option.bind_some, g1, g2, decide_true, if_true, Bool.not_true]
    rw [spec_IvQuo.j0]
    simp only [Bool.false_eq_true, if_false, parts_is, quo_val a b _ hl ha hb, eh, Option.bind_some, decide_eq_true_eq]
    by_cases h : c ≤ 0 ∧ 0 ≤ d
    · rw [if_pos h, if_pos h, valC_al]
    · rw [if_neg h, if_neg h]
  · refine ⟨(0, 0, false, 0), ?_, ?_⟩
    · by_cases g1 : a ≤ b
      · have g2 : ¬ c ≤ d := fun x => g ⟨g1, x⟩
        simp [spec_IvQuo.f, spec_IvQuo.j0, spec_IvOk.f, g1, g2]
      · simp [spec_IvQuo.f, spec_IvQuo.j0, spec_IvOk.f, g1]
    · unfold impl_IvQuo.f
      rw [if_pos ⟨ha, hb, hc, hd⟩, if_neg g]

def absV (x : Int) : Int := if x < 0 then IntKind.u64.wrap (-(IntKind.u64.wrap x)) else IntKind.u64.wrap x
def remW (a c : Int) : Int := if c = 0 then 0 else if c = -1 then 0 else Int.tmod a c
theorem abs_is (x : Int) : spec_l1Abs.f x = some (absV x) ∧ impl_distance.f x = some (absV x) := by
  unfold spec_l1Abs.f impl_distance.f absV
  by_cases h : x < 0 <;> simp [h]
theorem rem_is (a c : Int) : spec_NumRem.f a c = some (remW a c) ∧ impl_NumRem.f a c = some (remW a c) := by
  unfold spec_NumRem.f impl_NumRem.f remW
  by_cases h : c = 0 <;> by_cases g : c = -1 <;> simp [h, g]
theorem rem_same (a b c d : Int) (hc : -9223372036854775808 ≤ c) (hd : d ≤ 9223372036854775807) : ∃ v, spec_IvRem.f 8 a b c d = some v ∧ impl_IvRem.f 8 a b c d = some v := by
  by_cases g1 : a ≤ b
  · by_cases g2 : c ≤ d
    · have es : ∀ x, spec_IvRem.j1 7 a b c d 0 0 false x = impl_IvRem.f 8 a b c d ∨ True := fun _ => .inr trivial
      have ei : impl_areIvs.f a b c d = some true := by simp [impl_areIvs.f, impl_IvOk.f, g1, g2]
      have eh : spec_IvHas.f c d 0 = some (decide (c ≤ 0 ∧ 0 ≤ d)) := by
        unfold spec_IvHas.f
        by_cases h1 : c ≤ 0 <;> by_cases h2 : 0 ≤ d <;> simp [h1, h2]
      have e0 : spec_IvRem.f 8 a b c d = spec_IvRem.j1 7 a b c d 0 0 false (if c ≤ 0 ∧ 0 ≤ d then 1 else 0) := by
        unfold spec_IvRem.f
        simp only [spec_IvOk.f, Option.bind_some, g1, g2, decide_true, if_true, Bool.not_true]
        rw [spec_IvRem.j0]
        simp only [Bool.false_eq_true, if_false, eh, Option.bind_some]
        by_cases h : c ≤ 0 ∧ 0 ≤ d <;> simp [h]
      rw [e0]
      unfold impl_IvRem.f
      rw [ei, divisors_is 8 (by omega) c d g2 hc hd]
      rw [spec_IvRem.j1, parts_is]
      simp only [Option.bind_some, if_true]
      by_cases hl : ((partsV c d).length : Int) = 0
      · rw [if_pos hl, if_pos hl]; exact ⟨_, rfl, rfl⟩
      · rw [if_neg hl, if_neg hl]
        have last : ∀ (t : Bool) (x : Int), ∃ v, spec_IvRem.j2 6 t a b c d 0 0 true x = some v ∧ impl_IvRem.j0 8 x t a b c d = some v := by
          intro t x
          rw [spec_IvRem.j2, impl_IvRem.j0]
          cases t
          · simp only [Bool.false_eq_true, if_false, (abs_is _).1, (abs_is _).2, Option.bind_some]
            by_cases h1 : a < 0 <;> by_cases h2 : b > 0 <;> simp [h1, h2]
          · simp only [if_true, (rem_is _ _).1, (rem_is _ _).2, Option.bind_some, impl_one.f]
            exact ⟨_, rfl, rfl⟩
        by_cases hab : a = b
        · rw [if_pos hab, if_pos hab]; exact last _ _
        · rw [if_neg hab, if_neg hab]; exact last _ _
    · refine ⟨(0, 0, false, 0), ?_, ?_⟩
      · simp [spec_IvRem.f, spec_IvRem.j0, spec_IvOk.f, g1, g2]
      · simp [impl_IvRem.f, impl_areIvs.f, impl_IvOk.f, g1, g2]
  · refine ⟨(0, 0, false, 0), ?_, ?_⟩
    · simp [spec_IvRem.f, spec_IvRem.j0, spec_IvOk.f, g1]
    · simp [impl_IvRem.f, impl_areIvs.f, impl_IvOk.f, g1]

/-- What an operation gives of the corners of two right intervals, by the reference. -/
theorem op_is (k : Nat) (hk : 8 ≤ k) (op : Int) (F : Int → Int → Int × Int) (a b c d : Int)
    (h0 : spec_l2Corner.f op a c = some (F a c)) (h1 : spec_l2Corner.f op b c = some (F b c)) (h2 : spec_l2Corner.f op a d = some (F a d)) (h3 : spec_l2Corner.f op b d = some (F b d))
    (hr : ∀ x y, -9223372036854775808 ≤ (F x y).1 ∧ (F x y).1 ≤ 9223372036854775807) : spec_l2Op.f k op a b c d = some (ByCor.cornV F a b c d) := by
  obtain ⟨k, rfl⟩ : ∃ m, k = m + 8 := ⟨k - 8, by omega⟩
  unfold spec_l2Op.f ByCor.cornV
  simp only [spec_IvOk.f, Option.bind_some, decide_eq_true_eq]
  by_cases g1 : a ≤ b
  · by_cases g2 : c ≤ d
    · rw [if_pos g1, if_pos g2, if_pos ⟨g1, g2⟩]
      have e := ends_pairs [F a c, F b c, F a d, F b d] [F a c, F a d, F b c, F b d] (by simp) (by simp) (by intro p; constructor <;> (intro h; simp only [List.mem_cons, List.not_mem_nil, or_false] at h ⊢; rcases h with h | h | h | h <;> simp [h]))
        (by intro p hp; simp only [List.mem_cons, List.not_mem_nil, or_false] at hp; rcases hp with rfl | rfl | rfl | rfl <;> exact hr _ _)
      have b0 : spec_l2Box.f (k + 8) op a b [(⟨c, d⟩ : S25)] = some (Cor.valC (Cor.allC F ([], false, false) a b c d) 0) := by
        unfold spec_l2Box.f
        rw [spec_l2Box.l0]
        rw [if_pos (by simp), if_pos (by decide)]
        show spec_l2Box.l1 (k + 2 + 5) op _ [] [] 0 0 a b c d = _
        rw [box_round (k + 2) op F _ [] [] 0 a b c d (by simp) (by simp) h0 h1 h2 h3]
        rw [spec_l2Box.l0, show wrap64 (0 + 1) = 1 from by decide +kernel, if_neg (by simp)]
        simp only [List.nil_append]
        simp only [List.map_cons, List.map_nil] at e
        rw [e]
        rfl
      rw [b0]
      rfl
    · rw [if_pos g1, if_neg g2, if_neg (fun h => g2 h.2)]
  · rw [if_neg g1, if_neg (fun h => g1 h.1)]

theorem spec_NumAdd_is {a b : Int} (ha : -9223372036854775808 ≤ a ∧ a ≤ 9223372036854775807) (hb : -9223372036854775808 ≤ b ∧ b ≤ 9223372036854775807) :
    spec_NumAdd.f a b = some (Math.addV a b) := by
  unfold spec_NumAdd.f
  rw [if_pos ⟨ha, hb⟩]

def Btw (u v w : Int) : Prop := (u ≤ w ∧ w ≤ v) ∨ (v ≤ w ∧ w ≤ u)
def cor4 (f : Int → Int → Int) (a b c d : Int) : List Int := [f a c, f a d, f b c, f b d]
theorem cor4_bd {f : Int → Int → Int} {a b c d m M : Int} (h : ∀ r ∈ cor4 f a b c d, m ≤ r) (h' : ∀ r ∈ cor4 f a b c d, r ≤ M)
    (hx : ∀ y, c ≤ y → y ≤ d → ∀ x, a ≤ x → x ≤ b → Btw (f a y) (f b y) (f x y)) (hy : ∀ x, a ≤ x → x ≤ b → ∀ y, c ≤ y → y ≤ d → Btw (f x c) (f x d) (f x y)) :
    ∀ x y, a ≤ x → x ≤ b → c ≤ y → y ≤ d → m ≤ f x y ∧ f x y ≤ M := by
  intro x y h1 h2 h3 h4
  have a1 := hx y h3 h4 x h1 h2
  have a2 := hy a (Int.le_refl _) (by omega) y h3 h4
  have a3 := hy b (by omega) (Int.le_refl _) y h3 h4
  unfold cor4 at h h'
  have b1 := h _ (.head _); have b2 := h _ (.tail _ (.head _)); have b3 := h _ (.tail _ (.tail _ (.head _))); have b4 := h _ (.tail _ (.tail _ (.tail _ (.head _))))
  have d1 := h' _ (.head _); have d2 := h' _ (.tail _ (.head _)); have d3 := h' _ (.tail _ (.tail _ (.head _))); have d4 := h' _ (.tail _ (.tail _ (.tail _ (.head _))))
  unfold Btw at a1 a2 a3
  omega
theorem mul_btw {u v x : Int} (y : Int) (h1 : u ≤ x) (h2 : x ≤ v) : Btw (u * y) (v * y) (x * y) := by
  by_cases h : 0 ≤ y
  · exact .inl ⟨Int.mul_le_mul_of_nonneg_right h1 h, Int.mul_le_mul_of_nonneg_right h2 h⟩
  · exact .inr ⟨Int.mul_le_mul_of_nonpos_right h2 (by omega), Int.mul_le_mul_of_nonpos_right h1 (by omega)⟩
theorem quo_mono_x {u x : Int} {y : Int} (hy : y ≠ 0) (h : u ≤ x) : (0 < y → Int.tdiv u y ≤ Int.tdiv x y) ∧ (y < 0 → Int.tdiv x y ≤ Int.tdiv u y) := by
  refine ⟨fun hp => Int.tdiv_le_tdiv hp h, fun hn => ?_⟩
  have e : ∀ z : Int, Int.tdiv z y = -(Int.tdiv z (-y)) := fun z => by rw [Int.tdiv_neg, Int.neg_neg]
  rw [e x, e u]
  have := Int.tdiv_le_tdiv (show 0 < -y by omega) h
  omega
theorem quo_btw_x {u v x y : Int} (hy : y ≠ 0) (h1 : u ≤ x) (h2 : x ≤ v) : Btw (Int.tdiv u y) (Int.tdiv v y) (Int.tdiv x y) := by
  have a1 := quo_mono_x hy h1
  have a2 := quo_mono_x hy h2
  unfold Btw
  rcases Int.lt_or_gt_of_ne hy with h | h
  · have := a1.2 h; have := a2.2 h; omega
  · have := a1.1 h; have := a2.1 h; omega
theorem quo_anti {x y y' : Int} (hx : 0 ≤ x) (hy : 0 < y) (h : y ≤ y') : Int.tdiv x y' ≤ Int.tdiv x y := by
  rw [Int.tdiv_eq_ediv_of_nonneg hx, Int.tdiv_eq_ediv_of_nonneg hx, Int.le_ediv_iff_mul_le hy]
  have h0 : 0 ≤ x / y' := Int.ediv_nonneg hx (by omega)
  have h1 : x / y' * y' ≤ x := Int.ediv_mul_le x (by omega)
  have h2 : x / y' * y ≤ x / y' * y' := Int.mul_le_mul_of_nonneg_left h h0
  omega
theorem quo_btw_y {u v x y : Int} (hs : 0 < u ∨ v < 0) (h1 : u ≤ y) (h2 : y ≤ v) : Btw (Int.tdiv x u) (Int.tdiv x v) (Int.tdiv x y) := by
  have pos : ∀ {x u v y : Int}, 0 ≤ x → 0 < u → u ≤ y → y ≤ v → Int.tdiv x v ≤ Int.tdiv x y ∧ Int.tdiv x y ≤ Int.tdiv x u := fun hx hu h1 h2 => ⟨quo_anti hx (by omega) h2, quo_anti hx hu h1⟩
  have any : ∀ {x u v y : Int}, 0 < u → u ≤ y → y ≤ v → Btw (Int.tdiv x u) (Int.tdiv x v) (Int.tdiv x y) := by
    intro x u v y hu h1 h2
    by_cases hx : 0 ≤ x
    · have := pos hx hu h1 h2; exact .inr this
    · have := pos (show 0 ≤ -x by omega) hu h1 h2
      rw [Int.neg_tdiv, Int.neg_tdiv, Int.neg_tdiv] at this
      exact .inl ⟨by omega, by omega⟩
  rcases hs with h | h
  · exact any h h1 h2
  · have := any (x := x) (show 0 < -v by omega) (show -v ≤ -y by omega) (show -y ≤ -u by omega)
    rw [Int.tdiv_neg, Int.tdiv_neg, Int.tdiv_neg] at this
    unfold Btw at this ⊢
    omega
/-- What an operation gives of two numbers, of whatever size. -/
def gV (k x y : Int) : Int := if k = 0 then x + y else if k = 1 then x - y else if k = 2 then x * y else if k = 3 then Int.tdiv x y else Int.tmod x y
def Pt (k a b c d x y : Int) : Prop := a ≤ x ∧ x ≤ b ∧ c ≤ y ∧ y ≤ d ∧ (3 ≤ k → y ≠ 0)
def alV (k c d : Int) : Int := if 3 ≤ k ∧ c ≤ 0 ∧ 0 ≤ d then 1 else 0
def remW' (c d : Int) : Int := mx (c.natAbs : Int) (d.natAbs : Int) - 1
def remLo (a b c d : Int) : Int := if a = b ∧ c = d then Int.tmod a c else if a < 0 then mx (-(remW' c d)) a else 0
def remHi (a b c d : Int) : Int := if a = b ∧ c = d then Int.tmod a c else if 0 < b then mn (remW' c d) b else 0
/-- What is known of the value that an operation gives of two right intervals. -/
def Good (k a b c d : Int) (v : Int × Int × Bool × Int) : Prop :=
  (3 ≤ k ∧ c = 0 ∧ d = 0 ∧ v = (0, 0, false, 1)) ∨ (¬ (3 ≤ k ∧ c = 0 ∧ d = 0) ∧ ∃ m M, v = clV m M (alV k c d) ∧ (∀ x y, Pt k a b c d x y → m ≤ gV k x y ∧ gV k x y ≤ M) ∧
    (k ≤ 3 → (∃ x y, Pt k a b c d x y ∧ m = gV k x y) ∧ ∃ x y, Pt k a b c d x y ∧ M = gV k x y) ∧ (k ≤ 3 → alV k c d = 0 → m ∈ cor4 (gV k) a b c d ∧ M ∈ cor4 (gV k) a b c d) ∧
    (k = 4 → m = remLo a b c d ∧ M = remHi a b c d))
theorem cor4_pt {k a b c d r : Int} (hab : a ≤ b) (hcd : c ≤ d) (hk : k < 3) (h : r ∈ cor4 (gV k) a b c d) : ∃ x y, Pt k a b c d x y ∧ r = gV k x y := by
  unfold cor4 at h
  simp only [List.mem_cons, List.not_mem_nil, or_false] at h
  rcases h with rfl | rfl | rfl | rfl
  · exact ⟨a, c, ⟨by omega, by omega, by omega, by omega, by omega⟩, rfl⟩
  · exact ⟨a, d, ⟨by omega, by omega, by omega, by omega, by omega⟩, rfl⟩
  · exact ⟨b, c, ⟨by omega, by omega, by omega, by omega, by omega⟩, rfl⟩
  · exact ⟨b, d, ⟨by omega, by omega, by omega, by omega, by omega⟩, rfl⟩
theorem good3 (k : Int) (hk0 : 0 ≤ k) (hk : k < 3) (F : Int → Int → Int × Int) (hF : ∀ x y, F x y = cl (gV k x y)) (a b c d : Int) (hab : a ≤ b) (hcd : c ≤ d) : Good k a b c d (ByCor.cornV F a b c d) := by
  obtain ⟨m, M, h⟩ := between_some (cor4 (gV k) a b c d) (by simp [cor4])
  have ea : alV k c d = 0 := by unfold alV; rw [if_neg (by omega)]
  have ev : ByCor.cornV F a b c d = clV m M 0 := by
    rw [← valC_real _ _ _ 0 h]
    unfold ByCor.cornV Cor.allC
    rw [if_pos ⟨hab, hcd⟩, hF, hF, hF, hF]
    rfl
  refine .inr ⟨by omega, m, M, by rw [ev, ea], ?_, fun _ => ⟨cor4_pt hab hcd hk h.1, cor4_pt hab hcd hk h.2.2.1⟩, fun _ _ => ⟨h.1, h.2.2.1⟩, fun h => by omega⟩
  have key := cor4_bd (f := gV k) h.2.1 h.2.2.2
  rintro x y ⟨h1, h2, h3, h4, -⟩
  refine key ?_ ?_ x y h1 h2 h3 h4
  · intro y _ _ x g1 g2
    rcases (by omega : k = 0 ∨ k = 1 ∨ k = 2) with rfl | rfl | rfl
    · show Btw (a + y) (b + y) (x + y); unfold Btw; omega
    · show Btw (a - y) (b - y) (x - y); unfold Btw; omega
    · exact mul_btw y g1 g2
  · intro x _ _ y g1 g2
    rcases (by omega : k = 0 ∨ k = 1 ∨ k = 2) with rfl | rfl | rfl
    · show Btw (x + c) (x + d) (x + y); unfold Btw; omega
    · show Btw (x - c) (x - d) (x - y); unfold Btw; omega
    · show Btw (x * c) (x * d) (x * y)
      rw [Int.mul_comm x c, Int.mul_comm x d, Int.mul_comm x y]
      exact mul_btw x g1 g2
theorem quo_cl {x y : Int} (hx : -9223372036854775808 ≤ x ∧ x ≤ 9223372036854775807) (hy : y ≠ 0) : Math.quoV x y = cl (Int.tdiv x y) := by
  unfold Math.quoV
  rw [if_neg hy]
  by_cases h : x = -9223372036854775808 ∧ y = -1
  · rw [if_pos h, h.1, h.2]; rfl
  · rw [if_neg h]
    have := Math.tdiv_in hx.1 hx.2 h
    unfold cl
    rw [if_neg (by omega), if_neg (by omega)]
def quoR (a b c d : Int) : List Int := (if c < 0 then cor4 Int.tdiv a b c (mn d (-1)) else []) ++ (if 0 < d then cor4 Int.tdiv a b (mx c 1) d else [])
theorem quoS_real (a b c d : Int) (ha : -9223372036854775808 ≤ a ∧ a ≤ 9223372036854775807) (hb : -9223372036854775808 ≤ b ∧ b ≤ 9223372036854775807) :
    ByCor.quoS Math.quoV a b (impl_IvQuo.ds (partsV c d)) (partsV c d).length = ((quoR a b c d).map cl).foldl (fun s p => Cor.addC s p.1 p.2) ([], false, false) := by
  have hm : mn d (-1) ≠ 0 := by unfold mn; split <;> omega
  have hx : mx c 1 ≠ 0 := by unfold mx; split <;> omega
  unfold partsV quoR
  by_cases h1 : c < 0
  · have n1 : c ≠ 0 := by omega
    rw [if_pos h1, if_pos h1]
    by_cases h2 : 0 < d
    · have n2 : d ≠ 0 := by omega
      rw [if_pos h2, if_pos h2]
      show Cor.allC Math.quoV (Cor.allC Math.quoV ([], false, false) a b c (mn d (-1))) a b (mx c 1) d = _
      unfold Cor.allC
      rw [quo_cl ha n1, quo_cl ha hm, quo_cl hb n1, quo_cl hb hm, quo_cl ha hx, quo_cl ha n2, quo_cl hb hx, quo_cl hb n2]
      rfl
    · rw [if_neg h2, if_neg h2]
      show Cor.allC Math.quoV ([], false, false) a b c (mn d (-1)) = _
      unfold Cor.allC
      rw [quo_cl ha n1, quo_cl ha hm, quo_cl hb n1, quo_cl hb hm]
      rfl
  · rw [if_neg h1, if_neg h1]
    by_cases h2 : 0 < d
    · have n2 : d ≠ 0 := by omega
      rw [if_pos h2, if_pos h2]
      show Cor.allC Math.quoV ([], false, false) a b (mx c 1) d = _
      unfold Cor.allC
      rw [quo_cl ha hx, quo_cl ha n2, quo_cl hb hx, quo_cl hb n2]
      rfl
    · rw [if_neg h2, if_neg h2]
      rfl
theorem quo_pt {a b c d r : Int} (hab : a ≤ b) (h : r ∈ quoR a b c d) (hcd : c ≤ d) : ∃ x y, Pt 3 a b c d x y ∧ r = gV 3 x y := by
  have g : ∀ {x y : Int}, gV 3 x y = Int.tdiv x y := rfl
  have m1 : c < 0 → c ≤ mn d (-1) ∧ mn d (-1) ≤ d ∧ mn d (-1) < 0 := by unfold mn; split <;> omega
  have m2 : 0 < d → c ≤ mx c 1 ∧ mx c 1 ≤ d ∧ 0 < mx c 1 := by unfold mx; split <;> omega
  unfold quoR cor4 at h
  rcases List.mem_append.mp h with h | h
  · by_cases k : c < 0
    · have m1 := m1 k
      rw [if_pos k] at h
      simp only [List.mem_cons, List.not_mem_nil, or_false] at h
      rcases h with rfl | rfl | rfl | rfl
      · exact ⟨a, c, ⟨by omega, by omega, by omega, by omega, fun _ => by omega⟩, g.symm⟩
      · exact ⟨a, mn d (-1), ⟨by omega, by omega, by omega, by omega, fun _ => by omega⟩, g.symm⟩
      · exact ⟨b, c, ⟨by omega, by omega, by omega, by omega, fun _ => by omega⟩, g.symm⟩
      · exact ⟨b, mn d (-1), ⟨by omega, by omega, by omega, by omega, fun _ => by omega⟩, g.symm⟩
    · rw [if_neg k] at h; simp at h
  · by_cases k : 0 < d
    · have m2 := m2 k
      rw [if_pos k] at h
      simp only [List.mem_cons, List.not_mem_nil, or_false] at h
      rcases h with rfl | rfl | rfl | rfl
      · exact ⟨a, mx c 1, ⟨by omega, by omega, by omega, by omega, fun _ => by omega⟩, g.symm⟩
      · exact ⟨a, d, ⟨by omega, by omega, by omega, by omega, fun _ => by omega⟩, g.symm⟩
      · exact ⟨b, mx c 1, ⟨by omega, by omega, by omega, by omega, fun _ => by omega⟩, g.symm⟩
      · exact ⟨b, d, ⟨by omega, by omega, by omega, by omega, fun _ => by omega⟩, g.symm⟩
    · rw [if_neg k] at h; simp at h
theorem good_quo (a b c d : Int) (ha : -9223372036854775808 ≤ a ∧ a ≤ 9223372036854775807) (hb : -9223372036854775808 ≤ b ∧ b ≤ 9223372036854775807) (hab : a ≤ b) (hcd : c ≤ d) :
    Good 3 a b c d (Cor.valC (ByCor.quoS Math.quoV a b (impl_IvQuo.ds (partsV c d)) (partsV c d).length) (if c ≤ 0 ∧ 0 ≤ d then 1 else 0)) := by
  rw [quoS_real a b c d ha hb]
  by_cases z : c = 0 ∧ d = 0
  · refine .inl ⟨by omega, z.1, z.2, ?_⟩
    obtain ⟨rfl, rfl⟩ := z
    rfl
  · have hne : quoR a b c d ≠ [] := by
      unfold quoR cor4
      by_cases k : c < 0
      · rw [if_pos k]; simp
      · rw [if_neg k, if_pos (by omega)]; simp
    obtain ⟨m, M, h⟩ := between_some _ hne
    have ea : alV 3 c d = if c ≤ 0 ∧ 0 ≤ d then 1 else 0 := by unfold alV; simp
    refine .inr ⟨fun h => z h.2, m, M, by rw [valC_real _ _ _ _ h, ea], ?_, fun _ => ⟨quo_pt hab h.1 hcd, quo_pt hab h.2.2.1 hcd⟩, fun _ hal => ?_, fun h => by omega⟩
    · rintro x y ⟨h1, h2, h3, h4, h5⟩
      have h5 := h5 (by omega)
      show m ≤ Int.tdiv x y ∧ Int.tdiv x y ≤ M
      by_cases s : y < 0
      · have m1 : mn d (-1) < 0 ∧ y ≤ mn d (-1) := by unfold mn; split <;> omega
        have q : ∀ r ∈ cor4 Int.tdiv a b c (mn d (-1)), r ∈ quoR a b c d := fun r hr => by unfold quoR; rw [if_pos (by omega)]; exact List.mem_append_left _ hr
        exact cor4_bd (fun r hr => h.2.1 r (q r hr)) (fun r hr => h.2.2.2 r (q r hr)) (fun y _ g2 x g3 g4 => quo_btw_x (by omega) g3 g4) (fun x _ _ y g3 g4 => quo_btw_y (.inr m1.1) g3 g4) x y h1 h2 h3 m1.2
      · have m1 : 0 < mx c 1 ∧ mx c 1 ≤ y := by unfold mx; split <;> omega
        have q : ∀ r ∈ cor4 Int.tdiv a b (mx c 1) d, r ∈ quoR a b c d := fun r hr => by unfold quoR; rw [if_pos (show 0 < d by omega)]; exact List.mem_append_right _ hr
        exact cor4_bd (fun r hr => h.2.1 r (q r hr)) (fun r hr => h.2.2.2 r (q r hr)) (fun y g1 _ x g3 g4 => quo_btw_x (by omega) g3 g4) (fun x _ _ y g3 g4 => quo_btw_y (.inl m1.1) g3 g4) x y h1 h2 m1.2 h4
    · have hz : ¬ (c ≤ 0 ∧ 0 ≤ d) := fun hh => by rw [ea, if_pos hh] at hal; simp at hal
      have e : quoR a b c d = cor4 (gV 3) a b c d := by
        show _ = cor4 Int.tdiv a b c d
        unfold quoR
        by_cases k : c < 0
        · rw [if_pos k, if_neg (by omega), show mn d (-1) = d by unfold mn; rw [if_neg (by omega)]]; simp
        · rw [if_neg k, if_pos (by omega), show mx c 1 = c by unfold mx; rw [if_neg (by omega)]]; simp
      rw [← e]
      exact ⟨h.1, h.2.2.1⟩

theorem impl_NumQuo_is {a b : Int} (ha : -9223372036854775808 ≤ a ∧ a ≤ 9223372036854775807) :
    impl_NumQuo.f a b = some (Math.quoV a b) := by
  unfold impl_NumQuo.f Math.quoV
  by_cases h0 : b = 0
  · rw [if_pos h0, if_pos h0]
  · rw [if_neg h0, if_neg h0]
    by_cases hn : a = -9223372036854775808 ∧ b = -1
    · rw [if_pos hn.1, if_pos hn.2, if_pos hn]
    · have hi := Math.tdiv_in ha.1 ha.2 hn
      rw [if_neg hn, Math.w64_id hi.1 hi.2]
      by_cases h2 : a = -9223372036854775808
      · rw [if_pos h2, if_neg (fun h => hn ⟨h2, h⟩)]
      · rw [if_neg h2]

theorem abs_val {x : Int} (h : -9223372036854775808 ≤ x ∧ x ≤ 9223372036854775807) : absV x = (x.natAbs : Int) := by
  unfold absV
  by_cases c : x < 0
  · rw [if_pos c, Math.uwrap, Math.uwrap]; omega
  · rw [if_neg c, Math.uwrap]; omega
theorem rem_tmod {a c : Int} (hc : c ≠ 0) : remW a c = Int.tmod a c := by
  unfold remW
  rw [if_neg hc]
  by_cases h : c = -1
  · rw [if_pos h, h]
    have e := Int.tmod_neg a 1
    rw [Int.tmod_one] at e
    exact e.symm
  · rw [if_neg h]
theorem tmod_bd {x y : Int} (hy : y ≠ 0) : (0 ≤ x → 0 ≤ Int.tmod x y ∧ Int.tmod x y ≤ x ∧ Int.tmod x y < y.natAbs) ∧ (x ≤ 0 → Int.tmod x y ≤ 0 ∧ x ≤ Int.tmod x y ∧ -(y.natAbs : Int) < Int.tmod x y) := by
  have key : ∀ z : Int, 0 ≤ z → 0 ≤ Int.tmod z y ∧ Int.tmod z y ≤ z ∧ Int.tmod z y < y.natAbs := by
    intro z hz
    have h1 := Int.natAbs_tmod z y
    have h2 := Int.tmod_nonneg y hz
    have h3 : z.natAbs % y.natAbs ≤ z.natAbs := Nat.mod_le _ _
    have h4 : z.natAbs % y.natAbs < y.natAbs := Nat.mod_lt _ (by omega)
    omega
  refine ⟨fun h => key x h, fun h => ?_⟩
  have := key (-x) (by omega)
  rw [Int.neg_tmod] at this
  omega
theorem rem_impl (a b c d : Int) (ha : -9223372036854775808 ≤ a ∧ a ≤ 9223372036854775807) (hb : -9223372036854775808 ≤ b ∧ b ≤ 9223372036854775807) (hc : -9223372036854775808 ≤ c ∧ c ≤ 9223372036854775807) (hd : -9223372036854775808 ≤ d ∧ d ≤ 9223372036854775807) (hab : a ≤ b) (hcd : c ≤ d) :
    impl_IvRem.f 8 a b c d = some (if c = 0 ∧ d = 0 then (0, 0, false, 1) else (remLo a b c d, remHi a b c d, true, if c ≤ 0 ∧ 0 ≤ d then 1 else 0)) := by
  have ei : impl_areIvs.f a b c d = some true := by simp [impl_areIvs.f, impl_IvOk.f, hab, hcd]
  unfold impl_IvRem.f
  rw [ei, divisors_is 8 (by omega) c d hcd hc.1 hd.2]
  simp only [Option.bind_some, if_true]
  by_cases z : c = 0 ∧ d = 0
  · obtain ⟨rfl, rfl⟩ := z
    rfl
  · have hl : ¬ (((partsV c d).length : Int) = 0) := by
      unfold partsV
      by_cases k : c < 0
      · rw [if_pos k]; simp; omega
      · rw [if_neg k, if_pos (by omega)]; simp
    rw [if_neg hl, if_neg z]
    have ex : ∀ al : Int, impl_IvRem.j0 8 al true a b c d = some (remW a c, remW a c, true, al) := by
      intro al
      rw [impl_IvRem.j0]
      simp only [if_true, (rem_is _ _).2, Option.bind_some, impl_one.f]
    have mm : wrap64 (IntKind.u64.wrap (mx (absV c) (absV d) - 1)) = remW' c d := by
      rw [abs_val hc, abs_val hd]
      unfold remW'
      have h1 : 1 ≤ mx (c.natAbs : Int) (d.natAbs : Int) ∧ mx (c.natAbs : Int) (d.natAbs : Int) ≤ 9223372036854775808 := by unfold mx; split <;> omega
      rw [Math.uwrap]; unfold wrap64; omega
    have mb : 0 ≤ remW' c d ∧ remW' c d ≤ 9223372036854775807 := by unfold remW' mx; split <;> omega
    have no : ∀ al : Int, impl_IvRem.j0 8 al false a b c d = some (if a < 0 then mx (-(remW' c d)) a else 0, if 0 < b then mn (remW' c d) b else 0, true, al) := by
      intro al
      rw [impl_IvRem.j0]
      simp only [Bool.false_eq_true, if_false, (abs_is _).2, Option.bind_some, mm]
      rw [show wrap64 (-(remW' c d)) = -(remW' c d) from Math.w64_id (by omega) (by omega)]
      by_cases h1 : a < 0 <;> by_cases h2 : b > 0 <;> simp [h1, h2]
    by_cases e1 : a = b
    · rw [if_pos e1]
      by_cases e2 : c = d
      · rw [show (c == d) = true by simpa using e2, ex]
        rw [show remLo a b c d = Int.tmod a c from if_pos ⟨e1, e2⟩, show remHi a b c d = Int.tmod a c from if_pos ⟨e1, e2⟩, rem_tmod (by omega)]
      · rw [show (c == d) = false by simpa using e2, no]
        rw [show remLo a b c d = _ from if_neg (fun h => e2 h.2), show remHi a b c d = _ from if_neg (fun h => e2 h.2)]
    · rw [if_neg e1, no]
      rw [show remLo a b c d = _ from if_neg (fun h => e1 h.1), show remHi a b c d = _ from if_neg (fun h => e1 h.1)]
theorem rem_lohi (a b c d : Int) (z : ¬ (c = 0 ∧ d = 0)) (hab : a ≤ b) (hcd : c ≤ d) : ∀ x y, Pt 4 a b c d x y → remLo a b c d ≤ Int.tmod x y ∧ Int.tmod x y ≤ remHi a b c d := by
  rintro x y ⟨h1, h2, h3, h4, h5⟩
  have h5 := h5 (by omega)
  have hb := tmod_bd (x := x) h5
  unfold remLo remHi
  by_cases e : a = b ∧ c = d
  · rw [if_pos e, if_pos e, show x = a by omega, show y = c by omega]
    omega
  · rw [if_neg e, if_neg e]
    have hy : (y.natAbs : Int) - 1 ≤ remW' c d := by unfold remW' mx; split <;> omega
    by_cases hx : 0 ≤ x
    · have := hb.1 hx
      refine ⟨?_, ?_⟩
      · unfold mx; repeat' split
        all_goals omega
      · unfold mn; repeat' split
        all_goals omega
    · have := hb.2 (by omega)
      refine ⟨?_, ?_⟩
      · unfold mx; repeat' split
        all_goals omega
      · unfold mn; repeat' split
        all_goals omega
theorem rem_range (a b c d : Int) (ha : -9223372036854775808 ≤ a ∧ a ≤ 9223372036854775807) (hb : -9223372036854775808 ≤ b ∧ b ≤ 9223372036854775807) (hc : -9223372036854775808 ≤ c ∧ c ≤ 9223372036854775807) (hd : -9223372036854775808 ≤ d ∧ d ≤ 9223372036854775807) (z : ¬ (c = 0 ∧ d = 0)) (hab : a ≤ b) :
    (-9223372036854775808 ≤ remLo a b c d ∧ remLo a b c d ≤ 9223372036854775807) ∧ (-9223372036854775808 ≤ remHi a b c d ∧ remHi a b c d ≤ 9223372036854775807) := by
  have mb : 0 ≤ remW' c d ∧ remW' c d ≤ 9223372036854775807 := by unfold remW' mx; split <;> omega
  unfold remLo remHi
  by_cases e : a = b ∧ c = d
  · rw [if_pos e, if_pos e]
    have := tmod_bd (x := a) (y := c) (by omega)
    omega
  · rw [if_neg e, if_neg e]
    unfold mx mn
    refine ⟨?_, ?_⟩ <;> repeat' split
    all_goals omega
theorem good_rem (a b c d : Int) (ha : -9223372036854775808 ≤ a ∧ a ≤ 9223372036854775807) (hb : -9223372036854775808 ≤ b ∧ b ≤ 9223372036854775807) (hc : -9223372036854775808 ≤ c ∧ c ≤ 9223372036854775807) (hd : -9223372036854775808 ≤ d ∧ d ≤ 9223372036854775807) (hab : a ≤ b) (hcd : c ≤ d) :
    Good 4 a b c d (if c = 0 ∧ d = 0 then (0, 0, false, 1) else (remLo a b c d, remHi a b c d, true, if c ≤ 0 ∧ 0 ≤ d then 1 else 0)) := by
  by_cases z : c = 0 ∧ d = 0
  · rw [if_pos z]; exact .inl ⟨by omega, z.1, z.2, rfl⟩
  · rw [if_neg z]
    obtain ⟨⟨r1, r2⟩, r3, r4⟩ := rem_range a b c d ha hb hc hd z hab
    have ea : alV 4 c d = if c ≤ 0 ∧ 0 ≤ d then 1 else 0 := by unfold alV; simp
    refine .inr ⟨fun h => z h.2, remLo a b c d, remHi a b c d, ?_, rem_lohi a b c d z hab hcd, fun h => by omega, fun h => by omega, fun _ => ⟨rfl, rfl⟩⟩
    rw [clV_in _ r1 r2 r3 r4, ea]
/-- Both, the program's and the reference's, give this value; of two right intervals it is as told. -/
theorem op_ok (k a b c d : Int) (hk0 : 0 ≤ k) (hk : k < 5) (ha : -9223372036854775808 ≤ a ∧ a ≤ 9223372036854775807) (hb : -9223372036854775808 ≤ b ∧ b ≤ 9223372036854775807) (hc : -9223372036854775808 ≤ c ∧ c ≤ 9223372036854775807) (hd : -9223372036854775808 ≤ d ∧ d ≤ 9223372036854775807) :
    ∃ v : Int × Int × Bool × Int, (∀ K, 21 ≤ K → laws_op.f K k a b c d = some (v.1, v.2.1, v.2.2.1, v.2.2.2, v.1, v.2.1, v.2.2.1, v.2.2.2)) ∧ (a ≤ b → c ≤ d → Good k a b c d v) := by
  have F3 : ∀ x y : Int, Math.addV x y = cl (x + y) ∧ Math.subV x y = cl (x - y) ∧ Math.mulV x y = cl (x * y) := fun x y => ⟨rfl, rfl, rfl⟩
  have cin : ∀ r : Int, -9223372036854775808 ≤ (cl r).1 ∧ (cl r).1 ≤ 9223372036854775807 := by
    intro r
    rcases cl_cases r with ⟨_, e⟩ | ⟨_, e⟩ | ⟨h1, h2, e⟩ <;> rw [e]
    · simp
    · simp
    · exact ⟨h1, h2⟩
  rcases (by omega : k = 0 ∨ k = 1 ∨ k = 2 ∨ k = 3 ∨ k = 4) with rfl | rfl | rfl | rfl | rfl
  · refine ⟨ByCor.cornV Math.addV a b c d, fun K hK => ?_, fun h1 h2 => good3 0 (by omega) (by omega) Math.addV (fun x y => (F3 x y).1) a b c d h1 h2⟩
    have co : ∀ x y : Int, (-9223372036854775808 ≤ x ∧ x ≤ 9223372036854775807) → (-9223372036854775808 ≤ y ∧ y ≤ 9223372036854775807) → spec_l2Corner.f 43 x y = some (Math.addV x y) := by
      intro x y hx hy
      unfold spec_l2Corner.f
      rw [if_pos rfl, show spec_NumAdd.f x y = some (Math.addV x y) from if_pos ⟨hx, hy⟩]
      rfl
    unfold laws_op.f spec_IvAdd.f
    rw [if_pos rfl, show impl_IvAdd.f a b c d = some (ByCor.cornV Math.addV a b c d) from if_pos ⟨ha, hb, hc, hd⟩, op_is K (by omega) 43 Math.addV a b c d (co _ _ ha hc) (co _ _ hb hc) (co _ _ ha hd) (co _ _ hb hd) (fun x y => by rw [(F3 x y).1]; exact cin _)]
    rfl
  · refine ⟨ByCor.cornV Math.subV a b c d, fun K hK => ?_, fun h1 h2 => good3 1 (by omega) (by omega) Math.subV (fun x y => (F3 x y).2.1) a b c d h1 h2⟩
    have co : ∀ x y : Int, (-9223372036854775808 ≤ x ∧ x ≤ 9223372036854775807) → (-9223372036854775808 ≤ y ∧ y ≤ 9223372036854775807) → spec_l2Corner.f 45 x y = some (Math.subV x y) := by
      intro x y hx hy
      unfold spec_l2Corner.f
      rw [if_neg (by decide), if_pos rfl, show spec_NumSub.f x y = some (Math.subV x y) from if_pos ⟨hx, hy⟩]
      rfl
    unfold laws_op.f spec_IvSub.f
    rw [if_neg (by decide), if_pos rfl, show impl_IvSub.f a b c d = some (ByCor.cornV Math.subV a b c d) from if_pos ⟨ha, hb, hc, hd⟩, op_is K (by omega) 45 Math.subV a b c d (co _ _ ha hc) (co _ _ hb hc) (co _ _ ha hd) (co _ _ hb hd) (fun x y => by rw [(F3 x y).2.1]; exact cin _)]
    rfl
  · refine ⟨ByCor.cornV Math.mulV a b c d, fun K hK => ?_, fun h1 h2 => good3 2 (by omega) (by omega) Math.mulV (fun x y => (F3 x y).2.2) a b c d h1 h2⟩
    have co : ∀ x y : Int, (-9223372036854775808 ≤ x ∧ x ≤ 9223372036854775807) → (-9223372036854775808 ≤ y ∧ y ≤ 9223372036854775807) → spec_l2Corner.f 42 x y = some (Math.mulV x y) := by
      intro x y hx hy
      unfold spec_l2Corner.f
      rw [if_neg (by decide), if_neg (by decide), if_pos rfl, show spec_NumMul.f x y = some (Math.mulV x y) from if_pos ⟨hx, hy⟩]
      rfl
    unfold laws_op.f spec_IvMul.f
    rw [if_neg (by decide), if_neg (by decide), if_pos rfl, show impl_IvMul.f a b c d = some (ByCor.cornV Math.mulV a b c d) from if_pos ⟨ha, hb, hc, hd⟩, op_is K (by omega) 42 Math.mulV a b c d (co _ _ ha hc) (co _ _ hb hc) (co _ _ ha hd) (co _ _ hb hd) (fun x y => by rw [(F3 x y).2.2]; exact cin _)]
    rfl
  · obtain ⟨v, e1, e2⟩ := quo_same a b c d ha hb hc hd
    refine ⟨v, fun K hK => ?_, fun h1 h2 => ?_⟩
    · have e1' : spec_IvQuo.f K a b c d = some v := at_rounds (g := fun k => spec_IvQuo.f k a b c d) (fun k => spec_IvQuo.mono a b c d k) hK e1
      unfold laws_op.f
      rw [if_neg (by decide), if_neg (by decide), if_neg (by decide), if_pos rfl, e2, e1']
      rfl
    · have e3 := e2.symm.trans (quo_impl a b c d ha hb hc hd h1 h2)
      rw [Option.some.inj e3]
      exact good_quo a b c d ha hb h1 h2
  · obtain ⟨v, e1, e2⟩ := rem_same a b c d hc.1 hd.2
    refine ⟨v, fun K hK => ?_, fun h1 h2 => ?_⟩
    · have e1' : spec_IvRem.f K a b c d = some v := at_rounds (g := fun k => spec_IvRem.f k a b c d) (fun k => spec_IvRem.mono a b c d k) (show 8 ≤ K by omega) e1
      have e2' : impl_IvRem.f K a b c d = some v := at_rounds (g := fun k => impl_IvRem.f k a b c d) (fun k => impl_IvRem.mono a b c d k) (show 8 ≤ K by omega) e2
      unfold laws_op.f
      rw [if_neg (by decide), if_neg (by decide), if_neg (by decide), if_neg (by decide), e2', e1']
      rfl
    · have e3 := e2.symm.trans (rem_impl a b c d ha hb hc hd h1 h2)
      rw [Option.some.inj e3]
      exact good_rem a b c d ha hb hc hd h1 h2

/-- What an operation gives of two numbers. -/
theorem num_val (k x y : Int) (hk0 : 0 ≤ k) (hk : k < 5) (hx : -9223372036854775808 ≤ x ∧ x ≤ 9223372036854775807) (hy : -9223372036854775808 ≤ y ∧ y ≤ 9223372036854775807) :
    ∃ n o, laws_num.f k x y = some (n, o) ∧ ((3 ≤ k → y ≠ 0) → (n, o) = cl (gV k x y)) := by
  unfold laws_num.f
  rcases (by omega : k = 0 ∨ k = 1 ∨ k = 2 ∨ k = 3 ∨ k = 4) with rfl | rfl | rfl | rfl | rfl
  · rw [if_pos rfl, show impl_NumAdd.f x y = some (Math.addV x y) from if_pos ⟨hx, hy⟩]; exact ⟨_, _, rfl, fun _ => rfl⟩
  · rw [if_neg (by decide), if_pos rfl, show impl_NumSub.f x y = some (Math.subV x y) from if_pos ⟨hx, hy⟩]; exact ⟨_, _, rfl, fun _ => rfl⟩
  · rw [if_neg (by decide), if_neg (by decide), if_pos rfl, show impl_NumMul.f x y = some (Math.mulV x y) from if_pos ⟨hx, hy⟩]; exact ⟨_, _, rfl, fun _ => rfl⟩
  · rw [if_neg (by decide), if_neg (by decide), if_neg (by decide), if_pos rfl, impl_NumQuo_is hx]
    exact ⟨_, _, rfl, fun h => quo_cl hx (h (by omega))⟩
  · rw [if_neg (by decide), if_neg (by decide), if_neg (by decide), if_neg (by decide), (rem_is x y).2]
    refine ⟨_, _, rfl, fun h => ?_⟩
    have h := h (by omega)
    rw [rem_tmod h]
    show _ = cl (Int.tmod x y)
    have := tmod_bd (x := x) h
    unfold cl
    rw [if_neg (by omega), if_neg (by omega)]

theorem op_dead {K : Nat} {k a b c d v1 v2 v4 w1 w2 w4 : Int} {v3 w3 : Bool} (hk0 : 0 ≤ k) (hk : k < 4) (ha : -9223372036854775808 ≤ a ∧ a ≤ 9223372036854775807) (hb : -9223372036854775808 ≤ b ∧ b ≤ 9223372036854775807) (hc : -9223372036854775808 ≤ c ∧ c ≤ 9223372036854775807) (hd : -9223372036854775808 ≤ d ∧ d ≤ 9223372036854775807)
    (g : ¬ (a ≤ b ∧ c ≤ d)) (e : laws_op.f K k a b c d = some (v1, v2, v3, v4, w1, w2, w3, w4)) : v3 = false := by
  unfold laws_op.f at e
  rcases (by omega : k = 0 ∨ k = 1 ∨ k = 2 ∨ k = 3) with rfl | rfl | rfl | rfl
  · rw [if_pos rfl, show impl_IvAdd.f a b c d = some (0, 0, false, 0) from (if_pos ⟨ha, hb, hc, hd⟩).trans (congrArg some (if_neg g))] at e
    simp only [Option.bind_some] at e
    obtain ⟨q, _, e⟩ := Option.bind_eq_some_iff.mp e
    simp only [Option.some.injEq, Prod.mk.injEq] at e
    exact e.2.2.1.symm
  · rw [if_neg (by decide), if_pos rfl, show impl_IvSub.f a b c d = some (0, 0, false, 0) from (if_pos ⟨ha, hb, hc, hd⟩).trans (congrArg some (if_neg g))] at e
    simp only [Option.bind_some] at e
    obtain ⟨q, _, e⟩ := Option.bind_eq_some_iff.mp e
    simp only [Option.some.injEq, Prod.mk.injEq] at e
    exact e.2.2.1.symm
  · rw [if_neg (by decide), if_neg (by decide), if_pos rfl, show impl_IvMul.f a b c d = some (0, 0, false, 0) from (if_pos ⟨ha, hb, hc, hd⟩).trans (congrArg some (if_neg g))] at e
    simp only [Option.bind_some] at e
    obtain ⟨q, _, e⟩ := Option.bind_eq_some_iff.mp e
    simp only [Option.some.injEq, Prod.mk.injEq] at e
    exact e.2.2.1.symm
  · have h : impl_IvQuo.f a b c d = some (0, 0, false, 0) := by
      unfold impl_IvQuo.f
      rw [if_pos ⟨ha, hb, hc, hd⟩, if_neg g]
    rw [if_neg (by decide), if_neg (by decide), if_neg (by decide), if_pos rfl, h] at e
    simp only [Option.bind_some] at e
    obtain ⟨q, _, e⟩ := Option.bind_eq_some_iff.mp e
    simp only [Option.some.injEq, Prod.mk.injEq] at e
    exact e.2.2.1.symm

/-- A code of bytes, and a place in it. -/
def St (l : List Int) (p : Int) : Prop := (∀ x ∈ l, 0 ≤ x ∧ x ≤ 255) ∧ l.length ≤ 1048576 ∧ 0 ≤ p ∧ p ≤ l.length
theorem rd_mem {xs : List Int} {i : Int} (h0 : 0 ≤ i) (h1 : i < xs.length) : rd xs i ∈ xs := by
  unfold rd
  rw [List.getD_eq_getElem?_getD, List.getElem?_eq_getElem (by omega), Option.getD_some]
  exact List.getElem_mem _
theorem w64_in (x : Int) : -9223372036854775808 ≤ wrap64 x ∧ wrap64 x ≤ 9223372036854775807 := by
  unfold wrap64; omega
theorem next_ok {l : List Int} {p : Int} (h : St l p) : ∃ v q, spec_l1Rd_next.f l p = some (v, q) ∧ (0 ≤ v ∧ v ≤ 255) ∧ St l q := by
  obtain ⟨hb, hn, h0, h1⟩ := h
  unfold spec_l1Rd_next.f
  by_cases c : p ≥ (l.length : Int)
  · rw [if_pos c]; exact ⟨0, p, rfl, by omega, hb, hn, h0, h1⟩
  · have e1 : wrap64 (p + 1) = p + 1 := Math.w64_id (by omega) (by omega)
    have e2 : wrap64 (p + 1 - 1) = p := by rw [Math.w64_id (by omega) (by omega)]; omega
    have hv := hb _ (rd_mem h0 (show p < (l.length : Int) by omega))
    rw [if_neg c, e1, e2, if_pos h0, if_pos (by omega), Math.w64_id (by omega) (by omega)]
    exact ⟨rd l p, p + 1, rfl, hv, hb, hn, by omega, by omega⟩
theorem below_ok {l : List Int} {p : Int} (h : St l p) {n : Int} (h1 : 1 < n) (h2 : n ≤ 65536) : ∃ v q, spec_l1Rd_below.f l p n = some (v, q) ∧ (0 ≤ v ∧ v < n) ∧ St l q := by
  unfold spec_l1Rd_below.f
  rw [if_neg (by omega)]
  by_cases c : n ≤ 256
  · obtain ⟨v, q, e, hv, hq⟩ := next_ok h
    rw [if_pos c, e]
    simp only [Option.bind_some]
    rw [if_neg (by omega), Int.tmod_eq_emod_of_nonneg hv.1]
    exact ⟨_, q, rfl, ⟨Int.emod_nonneg _ (by omega), Int.emod_lt_of_pos _ (by omega)⟩, hq⟩
  · obtain ⟨v, q, e, hv, hq⟩ := next_ok h
    obtain ⟨v2, q2, e2, hv2, hq2⟩ := next_ok hq
    rw [if_neg c, e]
    simp only [Option.bind_some]
    rw [e2]
    simp only [Option.bind_some]
    rw [if_neg (by omega), Math.w64_id (x := v * 256) (by omega) (by omega), Math.w64_id (by omega) (by omega), Int.tmod_eq_emod_of_nonneg (by omega)]
    exact ⟨_, q2, rfl, ⟨Int.emod_nonneg _ (by omega), Int.emod_lt_of_pos _ (by omega)⟩, hq2⟩

theorem or_u64 (x y : Int) : 0 ≤ Go.bits .or .u64 x y ∧ Go.bits .or .u64 x y < 18446744073709551616 := by
  have := bounds_u64 (wf_bits .or .u64 x y)
  omega
theorem word_loop {l : List Int} (d : Nat) : ∀ (k : Nat) (x i p : Int), St l p → (0 ≤ x ∧ x < 18446744073709551616) → i + d = 8 → 0 ≤ i → d < k →
    ∃ v q, spec_l1Rd_word.l0 k x i l p = some (v, q) ∧ (0 ≤ v ∧ v < 18446744073709551616) ∧ St l q ∧ ∀ k', d < k' → spec_l1Rd_word.l0 k' x i l p = some (v, q) := by
  induction d with
  | zero =>
    intro k x i p h hx hi h0 hk
    have key : ∀ k', 0 < k' → spec_l1Rd_word.l0 k' x i l p = some (x, p) := by
      intro k' hk'
      obtain ⟨k', rfl⟩ : ∃ m, k' = m + 1 := ⟨k' - 1, by omega⟩
      simp only [spec_l1Rd_word.l0]; rw [if_neg (by omega)]
    exact ⟨x, p, key k hk, hx, h, key⟩
  | succ d ih =>
    intro k x i p h hx hi h0 hk
    obtain ⟨v, q, e, hv, hq⟩ := next_ok h
    obtain ⟨r, q2, _, hr, hq2, all⟩ := ih (d + 1) (Go.bits .or .u64 (IntKind.u64.wrap (x * 256)) (IntKind.u64.wrap v)) (i + 1) q hq (or_u64 _ _) (by omega) (by omega) (by omega)
    have key : ∀ k', d + 1 < k' → spec_l1Rd_word.l0 k' x i l p = some (r, q2) := by
      intro k' hk'
      obtain ⟨k', rfl⟩ : ∃ m, k' = m + 1 := ⟨k' - 1, by omega⟩
      simp only [spec_l1Rd_word.l0]
      rw [if_pos (by omega), e]
      simp only [Option.bind_some]
      rw [Math.w64_id (by omega) (by omega)]
      exact all k' (by omega)
    exact ⟨r, q2, key k hk, hr, hq2, key⟩
theorem word_ok {l : List Int} {p : Int} (h : St l p) : ∃ v q, (∀ k, 9 ≤ k → spec_l1Rd_word.f k l p = some (v, q)) ∧ (0 ≤ v ∧ v < 18446744073709551616) ∧ St l q := by
  obtain ⟨v, q, _, hv, hq, all⟩ := word_loop 8 9 0 0 p h (by omega) (by omega) (by omega) (by omega)
  exact ⟨v, q, fun k hk => all k (by omega), hv, hq⟩

theorem shr_in {x : Int} (y : Int) (h : -9223372036854775808 ≤ x ∧ x ≤ 9223372036854775807) : -9223372036854775808 ≤ shr .i64 x y ∧ shr .i64 x y ≤ 9223372036854775807 := by
  unfold shr
  have hp : (0 : Int) < 2 ^ min y.toNat IntKind.i64.bits := Int.pow_pos (by decide)
  generalize (2 : Int) ^ min y.toNat IntKind.i64.bits = z at hp
  constructor
  · rw [Int.le_ediv_iff_mul_le hp]
    by_cases h0 : (0 : Int) ≤ x
    · have := Int.mul_nonneg (show (0 : Int) ≤ 9223372036854775808 by decide) (Int.le_of_lt hp)
      have e : -9223372036854775808 * z = -(9223372036854775808 * z) := Int.neg_mul _ _
      omega
    · have : (9223372036854775808 : Int) * 1 ≤ 9223372036854775808 * z := Int.mul_le_mul_of_nonneg_left (by omega) (by omega)
      have e : -9223372036854775808 * z = -(9223372036854775808 * z) := Int.neg_mul _ _
      omega
  · by_cases h0 : (0 : Int) ≤ x
    · have := Int.ediv_le_self z h0
      omega
    · have : x / z < 0 := Int.ediv_lt_of_lt_mul hp (by omega)
      omega
theorem num_ok {l : List Int} {p : Int} (h : St l p) : ∃ v q, (∀ k, 9 ≤ k → spec_l1Rd_num.f k l p = some (v, q)) ∧ (-9223372036854775808 ≤ v ∧ v ≤ 9223372036854775807) ∧ St l q := by
  unfold spec_l1Rd_num.f
  obtain ⟨v, q, e, hv, hq⟩ := below_ok h (n := 6) (by decide) (by decide)
  rw [e]
  simp only [Option.bind_some]
  by_cases c0 : v = 0
  · simp only [if_pos c0]
    obtain ⟨i, q2, e2, hi, hq2⟩ := below_ok hq (n := 10) (by decide) (by decide)
    rw [e2]
    simp only [Option.bind_some]
    rw [if_pos hi.1, if_pos (by simpa using hi.2)]
    refine ⟨_, q2, fun _ _ => rfl, ?_, hq2⟩
    have hm := rd_mem (xs := [(-9223372036854775808), (-9223372036854775807), 9223372036854775807, 9223372036854775806, (-1), 0, 1, 4294967296, (-4294967296), 3037000500]) hi.1 (by simpa using hi.2)
    generalize rd _ i = z at hm
    simp only [List.mem_cons, List.not_mem_nil, or_false] at hm
    omega
  · simp only [if_neg c0]
    by_cases c1 : v = 1
    · simp only [if_pos c1]
      obtain ⟨x, q2, e2, hx, hq2⟩ := word_ok hq
      exact ⟨_, q2, fun k hk => by rw [e2 k hk]; rfl, w64_in _, hq2⟩
    · simp only [if_neg c1]
      by_cases c2 : v = 2
      · simp only [if_pos c2]
        obtain ⟨x, q2, e2, hx, hq2⟩ := word_ok hq
        obtain ⟨y, q3, e3, hy, hq3⟩ := below_ok hq2 (n := 60) (by decide) (by decide)
        refine ⟨_, q3, fun k hk => by rw [e2 k hk]; simp only [Option.bind_some]; rw [e3]; simp only [Option.bind_some]; rw [if_pos (by rw [Math.uwrap]; omega)], shr_in _ (w64_in _), hq3⟩
      · simp only [if_neg c2]
        obtain ⟨y, q3, e3, hy, hq3⟩ := below_ok hq (n := 41) (by decide) (by decide)
        rw [e3]
        exact ⟨_, q3, fun _ _ => rfl, w64_in _, hq3⟩

theorem once_ok {l : List Int} {p : Int} (h : St l p) {n : Int} (h1 : 1 < n) (h2 : n ≤ 65536) : ∃ b q, spec_l1Rd_once.f l p n = some (b, q) ∧ St l q := by
  obtain ⟨v, q, e, _, hq⟩ := below_ok h h1 h2
  unfold spec_l1Rd_once.f
  rw [e]
  exact ⟨_, q, rfl, hq⟩

theorem addV_in {a b : Int} (ha : -9223372036854775808 ≤ a ∧ a ≤ 9223372036854775807) (hb : -9223372036854775808 ≤ b ∧ b ≤ 9223372036854775807) : -9223372036854775808 ≤ (Math.addV a b).1 ∧ (Math.addV a b).1 ≤ 9223372036854775807 := by
  unfold Math.addV
  split
  · simp
  · split
    · simp
    · simp only; omega
theorem iv_ok {l : List Int} {p : Int} (h : St l p) : ∃ a b q, (∀ k, 10 ≤ k → spec_l1Rd_iv.f k l p = some (a, b, q)) ∧ (-9223372036854775808 ≤ a ∧ a ≤ 9223372036854775807) ∧ (-9223372036854775808 ≤ b ∧ b ≤ 9223372036854775807) ∧ St l q := by
  obtain ⟨a, q, e, ha, hq⟩ := num_ok h
  obtain ⟨c, q2, e2, hc, hq2⟩ := below_ok hq (n := 4) (by decide) (by decide)
  have key : ∀ t : Bool, ∃ b q, (∀ k, 10 ≤ k → spec_l1Rd_iv.j0 k a a t l q2 = some (a, b, q)) ∧ (-9223372036854775808 ≤ b ∧ b ≤ 9223372036854775807) ∧ St l q := by
    intro t
    cases t with
    | true =>
      obtain ⟨i, q3, e3, hi, hq3⟩ := below_ok hq2 (n := 30) (by decide) (by decide)
      by_cases g : (Math.addV a i).1 < a
      · refine ⟨a, q3, fun k hk => ?_, ha, hq3⟩
        obtain ⟨k, rfl⟩ : ∃ m, k = m + 1 := ⟨k - 1, by omega⟩
        simp only [spec_l1Rd_iv.j0, if_true]
        rw [e3]; simp only [Option.bind_some]; rw [spec_NumAdd_is ha (by omega)]; simp only [Option.bind_some]; rw [if_pos g]
      · refine ⟨(Math.addV a i).1, q3, fun k hk => ?_, addV_in ha (by omega), hq3⟩
        obtain ⟨k, rfl⟩ : ∃ m, k = m + 1 := ⟨k - 1, by omega⟩
        simp only [spec_l1Rd_iv.j0, if_true]
        rw [e3]; simp only [Option.bind_some]; rw [spec_NumAdd_is ha (by omega)]; simp only [Option.bind_some]; rw [if_neg g]
    | false =>
      refine ⟨a, q2, fun k hk => ?_, ha, hq2⟩
      obtain ⟨k, rfl⟩ : ∃ m, k = m + 1 := ⟨k - 1, by omega⟩
      simp only [spec_l1Rd_iv.j0]
      rw [if_neg (by decide), if_neg (Int.lt_irrefl a)]
  unfold spec_l1Rd_iv.f
  by_cases c0 : c = 0
  · obtain ⟨b, q3, e3, hb, hq3⟩ := num_ok hq2
    by_cases g : b < a
    · obtain ⟨o, q4, e4, hq4⟩ := once_ok hq3 (n := 12) (by decide) (by decide)
      cases o with
      | true =>
        refine ⟨a, b, q4, fun k hk => ?_, ha, hb, hq4⟩
        rw [e k (by omega)]; simp only [Option.bind_some]; rw [e2]; simp only [Option.bind_some]; rw [if_pos c0, e3 k (by omega)]; simp only [Option.bind_some]; rw [if_pos g, e4]; rfl
      | false =>
        refine ⟨b, a, q4, fun k hk => ?_, hb, ha, hq4⟩
        rw [e k (by omega)]; simp only [Option.bind_some]; rw [e2]; simp only [Option.bind_some]; rw [if_pos c0, e3 k (by omega)]; simp only [Option.bind_some]; rw [if_pos g, e4]; rfl
    · refine ⟨a, b, q3, fun k hk => ?_, ha, hb, hq3⟩
      rw [e k (by omega)]; simp only [Option.bind_some]; rw [e2]; simp only [Option.bind_some]; rw [if_pos c0, e3 k (by omega)]; simp only [Option.bind_some]; rw [if_neg g]
  · by_cases c1 : c = 1
    · obtain ⟨b, q3, e3, hb, hq3⟩ := key (c == 1)
      refine ⟨a, b, q3, fun k hk => ?_, ha, hb, hq3⟩
      rw [e k (by omega)]; simp only [Option.bind_some]; rw [e2]; simp only [Option.bind_some]; rw [if_neg c0, if_pos c1]; exact e3 k hk
    · obtain ⟨b, q3, e3, hb, hq3⟩ := key (c == 2)
      refine ⟨a, b, q3, fun k hk => ?_, ha, hb, hq3⟩
      rw [e k (by omega)]; simp only [Option.bind_some]; rw [e2]; simp only [Option.bind_some]; rw [if_neg c0, if_neg c1]; exact e3 k hk

theorem drawIvAdd_ok {l : List Int} (h : ∀ x ∈ l, 0 ≤ x ∧ x ≤ 255) (hn : l.length ≤ 1048576) : ∃ a b c d, (∀ k, 10 ≤ k → spec_DrawIvAdd.f k l = some (a, b, c, d)) ∧ (-9223372036854775808 ≤ a ∧ a ≤ 9223372036854775807) ∧ (-9223372036854775808 ≤ b ∧ b ≤ 9223372036854775807) ∧ (-9223372036854775808 ≤ c ∧ c ≤ 9223372036854775807) ∧ (-9223372036854775808 ≤ d ∧ d ≤ 9223372036854775807) := by
  have h0 : St l 0 := ⟨h, hn, by omega, by omega⟩
  obtain ⟨a, b, q, e, ha, hb, hq⟩ := iv_ok h0
  obtain ⟨c, d, q3, e3, hc, hd, hq3⟩ := iv_ok hq
  unfold spec_DrawIvAdd.f spec_l1Open.f
  refine ⟨a, b, c, d, fun k hk => ?_, ha, hb, hc, hd⟩
  simp only [Option.bind_some]; rw [e k hk]; simp only [Option.bind_some]; rw [e3 k hk]; rfl

theorem byteOf_ok {l : List Int} (h : ∀ x ∈ l, 0 ≤ x ∧ x ≤ 255) {i : Int} (hi : 0 ≤ i) : ∃ v, laws_byteOf.f l i = some v ∧ 0 ≤ v ∧ v ≤ 255 := by
  unfold laws_byteOf.f
  by_cases c : (l.length : Int) = 0
  · rw [if_pos c]; exact ⟨0, rfl, by omega, by omega⟩
  · have h0 : 0 ≤ Int.tmod i (l.length : Int) := Int.tmod_nonneg _ hi
    have h1 : Int.tmod i (l.length : Int) < (l.length : Int) := Int.tmod_lt_of_pos _ (by omega)
    have hv := h _ (rd_mem h0 h1)
    rw [if_neg c, if_pos h0, if_pos h1, Math.w64_id (by omega) (by omega)]
    exact ⟨_, rfl, hv⟩
theorem five {v : Int} (h : 0 ≤ v ∧ v ≤ 255) : 0 ≤ Int.tmod v 5 ∧ Int.tmod v 5 < 5 := ⟨Int.tmod_nonneg _ h.1, Int.tmod_lt_of_pos _ (by omega)⟩

theorem ends_one (kk a b c d m M x y n o i : Int) (low high : Bool) (K : Nat) (i0 : 0 ≤ i) (i4 : i < 4) (t2 : 0 ≤ Int.tmod i 2) (t2' : Int.tmod i 2 < 2) 
    (rx : rd [a, b] (Int.tmod i 2) = x) (p : Int) (d2 : 0 ≤ p) (d2' : p < 2) (hp : wrap64 (Int.tdiv i 2) = p) (ry : rd [c, d] p = y) (e : laws_num.f kk x y = some (n, o)) :
    laws_FnIvEnds.l0 (K + 1) kk low high i a b c d m M true 0 = laws_FnIvEnds.l0 K kk (low || (o == 0 && n == m)) (high || (o == 0 && n == M)) (wrap64 (i + 1)) a b c d m M true 0 := by
  rw [laws_FnIvEnds.l0, if_pos i4, Option.bind_some, if_pos t2, if_pos (show Int.tmod i 2 < (([a, b] : List Int).length : Int) from t2'), Option.bind_some, hp, if_pos d2, if_pos (show p < (([c, d] : List Int).length : Int) from d2'), rx, ry, e, Option.bind_some]
  by_cases h : o = 0
  · rw [h]
    cases low <;> cases high <;> simp
  · have h' : (o == 0) = false := by simpa using h
    rw [h']
    cases low <;> cases high <;> simp [h]
theorem ends_step (kk a b c d m M x y r i j : Int) (low high : Bool) (K : Nat) (i0 : 0 ≤ i) (i4 : i < 4) (t2 : 0 ≤ Int.tmod i 2) (t2' : Int.tmod i 2 < 2) 
    (hj : wrap64 (i + 1) = j) (rx : rd [a, b] (Int.tmod i 2) = x) (p : Int) (d2 : 0 ≤ p) (d2' : p < 2) (hp : wrap64 (Int.tdiv i 2) = p) (ry : rd [c, d] p = y) (hr : r = gV kk x y) (hk0 : 0 ≤ kk) (hk : kk < 5)
    (bx : -9223372036854775808 ≤ x ∧ x ≤ 9223372036854775807) (by_ : -9223372036854775808 ≤ y ∧ y ≤ 9223372036854775807) (h0 : 3 ≤ kk → y ≠ 0)
    (hm : -9223372036854775808 ≤ m ∧ m ≤ 9223372036854775807) (hM : -9223372036854775808 ≤ M ∧ M ≤ 9223372036854775807) :
    laws_FnIvEnds.l0 (K + 1) kk low high i a b c d m M true 0 = laws_FnIvEnds.l0 K kk (low || decide (r = m)) (high || decide (r = M)) j a b c d m M true 0 := by
  obtain ⟨n, o, e, hno⟩ := num_val kk x y hk0 hk bx by_
  have hno := hno h0
  rw [← hr] at hno
  rw [ends_one kk a b c d m M x y n o i low high K i0 i4 t2 t2' rx p d2 d2' hp ry e, hj]
  have q1 : (o == 0 && n == m) = decide (r = m) ∧ (o == 0 && n == M) = decide (r = M) := by
    clear e rx ry t2 t2' d2 d2' hp hj bx by_ h0 hr
    change (n, o) = cl r at hno
    rcases cl_cases r with ⟨s, e'⟩ | ⟨s, e'⟩ | ⟨s, s', e'⟩
    · rw [e'] at hno
      obtain ⟨rfl, rfl⟩ := Prod.mk.inj hno
      rw [decide_eq_false (show ¬ r = m by omega), decide_eq_false (show ¬ r = M by omega)]
      exact ⟨rfl, rfl⟩
    · rw [e'] at hno
      obtain ⟨rfl, rfl⟩ := Prod.mk.inj hno
      rw [decide_eq_false (show ¬ r = m by omega), decide_eq_false (show ¬ r = M by omega)]
      exact ⟨rfl, rfl⟩
    · rw [e'] at hno
      obtain ⟨rfl, rfl⟩ := Prod.mk.inj hno
      exact ⟨rfl, rfl⟩
  rw [q1.1, q1.2]
theorem ends_fin (k a b c d m M : Int) (hk0 : 0 ≤ k) (hk : k < 4) (ha : -9223372036854775808 ≤ a ∧ a ≤ 9223372036854775807) (hb : -9223372036854775808 ≤ b ∧ b ≤ 9223372036854775807) (hc : -9223372036854775808 ≤ c ∧ c ≤ 9223372036854775807) (hd : -9223372036854775808 ≤ d ∧ d ≤ 9223372036854775807)
  (y0 : 3 ≤ k → c ≠ 0 ∧ d ≠ 0) (hm : -9223372036854775808 ≤ m ∧ m ≤ 9223372036854775807) (hM : -9223372036854775808 ≤ M ∧ M ≤ 9223372036854775807)
  (mm : gV k a c = m ∨ gV k a d = m ∨ gV k b c = m ∨ gV k b d = m) (MM : gV k a c = M ∨ gV k a d = M ∨ gV k b c = M ∨ gV k b d = M) : laws_FnIvEnds.l0 29 k false false 0 a b c d m M true 0 = some true := by
  rw [ends_step k a b c d m M a c (gV k a c) 0 1 false false 28 (by decide) (by decide) (by decide) (by decide) (by decide +kernel) rfl 0 (by decide) (by decide) (by decide +kernel) rfl rfl hk0 (by omega) ha hc (fun h => (y0 h).1) hm hM,
    ends_step k a b c d m M b c (gV k b c) 1 2 _ _ 27 (by decide) (by decide) (by decide) (by decide) (by decide +kernel) rfl 0 (by decide) (by decide) (by decide +kernel) rfl rfl hk0 (by omega) hb hc (fun h => (y0 h).1) hm hM,
    ends_step k a b c d m M a d (gV k a d) 2 3 _ _ 26 (by decide) (by decide) (by decide) (by decide) (by decide +kernel) rfl 1 (by decide) (by decide) (by decide +kernel) rfl rfl hk0 (by omega) ha hd (fun h => (y0 h).2) hm hM,
    ends_step k a b c d m M b d (gV k b d) 3 4 _ _ 25 (by decide) (by decide) (by decide) (by decide) (by decide +kernel) rfl 1 (by decide) (by decide) (by decide +kernel) rfl rfl hk0 (by omega) hb hd (fun h => (y0 h).2) hm hM,
    laws_FnIvEnds.l0, if_neg (by decide)]
  have q1 : (false || decide (gV k a c = m) || decide (gV k b c = m) || decide (gV k a d = m) || decide (gV k b d = m)) = true := by
    rcases mm with h | h | h | h <;> rw [h] <;> simp
  have q2 : (false || decide (gV k a c = M) || decide (gV k b c = M) || decide (gV k a d = M) || decide (gV k b d = M)) = true := by
    rcases MM with h | h | h | h <;> rw [h] <;> simp
  rw [q1, q2]
  rfl
theorem FnIvEnds (l0 : List Int) (b0 : ∀ x ∈ l0, 0 ≤ x ∧ x ≤ 255) : ∃ k, laws_FnIvEnds.f k l0 = some true := by
  refine ⟨30, ?_⟩
  unfold laws_FnIvEnds.f laws_big.f
  simp only [Option.bind_some]
  by_cases hn : (l0.length : Int) > 1048576
  · rw [if_pos (by simpa using hn)]
  rw [if_neg (by simpa using hn)]
  obtain ⟨a, b, c, d, e, ha, hb, hc, hd⟩ := drawIvAdd_ok b0 (by omega)
  obtain ⟨z, ez, hz⟩ := byteOf_ok b0 (show (0 : Int) ≤ 4 by decide)
  unfold spec_DrawIvQuo.f
  rw [e 30 (by omega)]
  simp only [Option.bind_some]
  rw [ez]
  simp only [Option.bind_some]
  obtain ⟨hk0, hk⟩ : 0 ≤ Int.tmod z 4 ∧ Int.tmod z 4 < 4 := ⟨Int.tmod_nonneg _ hz.1, Int.tmod_lt_of_pos _ (by omega)⟩
  generalize Int.tmod z 4 = k at hk0 hk
  obtain ⟨v, ev, hv⟩ := op_ok k a b c d hk0 (by omega) ha hb hc hd
  rw [ev 30 (by omega)]
  simp only [Option.bind_some, beq_self_eq_true, Bool.not_true, Bool.or_self]
  rw [if_neg (by decide)]
  have done : laws_FnIvEnds.j0 30 k true a b c d v.1 v.2.1 v.2.2.1 v.2.2.2 v.1 v.2.1 v.2.2.1 v.2.2.2 = some true := by
    rw [laws_FnIvEnds.j0, if_pos rfl]
    simp
  by_cases hl : v.2.2.1 = true
  case neg => rw [if_neg hl]; exact done
  rw [if_pos hl]
  by_cases h0 : v.2.2.2 = 0
  case neg => rw [show (v.2.2.2 != 0) = true from bne_iff_ne.mpr h0]; exact done
  rw [show (v.2.2.2 != 0) = false from bne_eq_false_iff_eq.mpr h0, laws_FnIvEnds.j0, if_neg (by decide)]
  have hok : a ≤ b ∧ c ≤ d := by
    by_cases g : a ≤ b ∧ c ≤ d
    · exact g
    · rw [op_dead hk0 hk ha hb hc hd g (ev 30 (by omega))] at hl
      exact absurd hl (by decide)
  rcases hv hok.1 hok.2 with ⟨_, _, _, e4⟩ | ⟨_, m, M, e4, hp, hq, hcor, -⟩
  · rw [e4] at hl; exact absurd hl (by simp)
  have a1 : (clV m M (alV k c d)).2.2.2 = clA m M (alV k c d) := by unfold clV; split <;> rfl
  have hal : alV k c d = 0 ∨ alV k c d = 1 := by unfold alV; split <;> simp
  have hcl : ¬ (m < -9223372036854775808 ∨ 9223372036854775807 < M) ∧ alV k c d = 0 := by
    rw [e4, a1] at h0
    unfold clA at h0
    by_cases q : m < -9223372036854775808 ∨ 9223372036854775807 < M
    · rw [if_pos q] at h0
      rcases hal with h | h <;> rw [h] at h0 <;> exact absurd h0 (by decide)
    · rw [if_neg q] at h0; exact ⟨q, h0⟩
  have hlive : ¬ (9223372036854775807 < m ∨ M < -9223372036854775808) := by
    intro q
    rw [e4] at hl
    unfold clV at hl
    rw [if_pos q] at hl
    exact absurd hl (by simp)
  have e5 : v = (m, M, true, 0) := by
    rw [e4, hcl.2]
    unfold clV clA
    rw [if_neg hlive, if_neg hcl.1, if_neg (by omega), if_neg (by omega)]
  obtain ⟨mm, MM⟩ := hcor (by omega) hcl.2
  have y0 : 3 ≤ k → c ≠ 0 ∧ d ≠ 0 := by
    intro h3
    have h := hcl.2
    unfold alV at h
    by_cases q : 3 ≤ k ∧ c ≤ 0 ∧ 0 ≤ d
    · rw [if_pos q] at h; exact absurd h (by decide)
    · constructor <;> omega
  rw [e5]
  unfold cor4 at mm MM
  simp only [List.mem_cons, List.not_mem_nil, or_false] at mm MM
  exact ends_fin k a b c d m M hk0 hk ha hb hc hd y0 (by omega) (by omega) (by rcases mm with h | h | h | h <;> simp [h.symm]) (by rcases MM with h | h | h | h <;> simp [h.symm])

end Go.Proofs.Ytdjhalelgknnkaa.PureFnIvEnds
