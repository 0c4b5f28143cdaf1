/- The program's IvQuo and the reference's return the same for all arguments: the law's function returns true. Conditions: none. -/
import Derived.Test.YtbfiejpckncfkaaQx0
import Derived.Test.YtbfiejpckncfkaaQx1
import Derived.Test.YtbfiejpckncfkaaQx2
import Derived.Test.YtbfiejpckncfkaaQx3
import Derived.Test.YtbfiejpckncfkaaQx4
import Derived.Test.YtbfiejpckncfkaaQx6
import Derived.Test.YtbfiejpckncfkaaQx9
import Derived.Test.YtbfiejpckncfkaaQx10
import Derived.Test.YtbfiejpckncfkaaQx11
import Derived.Test.YtbfiejpckncfkaaQx12
import Derived.Test.YtbfiejpckncfkaaQx13
import Derived.Test.YtbfiejpckncfkaaQx14
import Derived.Test.YtbfiejpckncfkaaQx15
import Derived.Test.YtbfiejpckncfkaaQx16
import Derived.Test.YtbfiejpckncfkaaQx17
import Derived.Test.YtbfiejpckncfkaaQx19
import Derived.Test.YtbfiejpckncfkaaQx20
import Derived.Test.YtbfiejpckncfkaaMath
namespace Go.Proofs.Ytbfiejpckncfkaa.PureFnExactIvQuo
open Go.RowKit Go.Proofs.Ytbfiejpckncfkaa Go.Proofs.Ytbfiejpckncfkaa.Q Go.Proofs.YtbfiejpckncfkaaW.PrintWords Go.Proofs.YtbfiejpckncfkaaW.PrintLast
set_option linter.unusedVariables false
set_option linter.unusedSimpArgs false

theorem minF_spec : ∀ (xs : List Int) (x : Int), (Cor.minF x xs ∈ x :: xs) ∧ ∀ y ∈ x :: xs, Cor.minF x xs ≤ y
  | [], x => by simp [Cor.minF]
  | z :: zs, x => by
    obtain ⟨h1, h2⟩ := minF_spec zs (mn x z)
    have e : Cor.minF x (z :: zs) = Cor.minF (mn x z) zs := rfl
    rw [e]
    have hm : mn x z = x ∨ mn x z = z := by unfold mn; split <;> simp
    have hle : mn x z ≤ x ∧ mn x z ≤ z := by unfold mn; split <;> omega
    refine ⟨?_, ?_⟩
    · rcases List.mem_cons.mp h1 with h | h
      · rw [h]; rcases hm with h | h <;> rw [h] <;> simp
      · exact List.mem_cons_of_mem _ (List.mem_cons_of_mem _ h)
    · intro y hy
      have h0 := h2 (mn x z) (List.mem_cons_self ..)
      rcases List.mem_cons.mp hy with h | h
      · omega
      · rcases List.mem_cons.mp h with h | h
        · omega
        · exact h2 y (List.mem_cons_of_mem _ h)
theorem maxF_spec : ∀ (xs : List Int) (x : Int), (Cor.maxF x xs ∈ x :: xs) ∧ ∀ y ∈ x :: xs, y ≤ Cor.maxF x xs
  | [], x => by simp [Cor.maxF]
  | z :: zs, x => by
    obtain ⟨h1, h2⟩ := maxF_spec zs (mx x z)
    have e : Cor.maxF x (z :: zs) = Cor.maxF (mx x z) zs := rfl
    rw [e]
    have hm : mx x z = x ∨ mx x z = z := by unfold mx; split <;> simp
    have hle : x ≤ mx x z ∧ z ≤ mx x z := by unfold mx; split <;> omega
    refine ⟨?_, ?_⟩
    · rcases List.mem_cons.mp h1 with h | h
      · rw [h]; rcases hm with h | h <;> rw [h] <;> simp
      · exact List.mem_cons_of_mem _ (List.mem_cons_of_mem _ h)
    · intro y hy
      have h0 := h2 (mx x z) (List.mem_cons_self ..)
      rcases List.mem_cons.mp hy with h | h
      · omega
      · rcases List.mem_cons.mp h with h | h
        · omega
        · exact h2 y (List.mem_cons_of_mem _ h)
theorem low_iff {l0 l1 : List Int} {i j : Nat} : spec_l2Ends.low l0 l1 i j = true ↔ rd l1 i < rd l1 j ∨ (rd l1 i = rd l1 j ∧ rd l0 i < rd l0 j) := by simp [spec_l2Ends.low]
theorem high_iff {l0 l1 : List Int} {i j : Nat} : spec_l2Ends.high l0 l1 i j = true ↔ rd l1 j < rd l1 i ∨ (rd l1 i = rd l1 j ∧ rd l0 j < rd l0 i) := by simp [spec_l2Ends.high]
/-- What holds of the two places behind i rounds. -/
def Inv (l0 l1 : List Int) (i : Nat) (s : Nat × Nat × Int) : Prop :=
  (∀ j, j < i → ¬ (rd l1 j < rd l1 s.1 ∨ (rd l1 j = rd l1 s.1 ∧ rd l0 j < rd l0 s.1))) ∧ (∀ j, j < i → ¬ (rd l1 s.2.1 < rd l1 j ∨ (rd l1 j = rd l1 s.2.1 ∧ rd l0 s.2.1 < rd l0 j))) ∧
  ((s.2.2 = 4 ∧ ∃ j, j < i ∧ rd l1 j ≠ 0) ∨ (s.2.2 = 0 ∧ ∀ j, j < i → rd l1 j = 0))
theorem st_inv (l0 l1 : List Int) : ∀ i, Inv l0 l1 i (spec_l2Ends.st l0 l1 i)
  | 0 => ⟨fun j hj => absurd hj (by omega), fun j hj => absurd hj (by omega), .inr ⟨rfl, fun j hj => absurd hj (by omega)⟩⟩
  | i + 1 => by
    obtain ⟨h1, h2, h3⟩ := st_inv l0 l1 i
    generalize hs : spec_l2Ends.st l0 l1 i = s at h1 h2 h3
    have e : spec_l2Ends.st l0 l1 (i + 1) = (if spec_l2Ends.low l0 l1 i s.1 then i else s.1, if spec_l2Ends.high l0 l1 i s.2.1 then i else s.2.1, if rd l1 i = 0 then s.2.2 else 4) := by rw [spec_l2Ends.st, hs]
    rw [e]
    refine ⟨?_, ?_, ?_⟩
    · intro j hj
      show ¬ (rd l1 j < rd l1 ((if spec_l2Ends.low l0 l1 i s.1 then i else s.1 : Nat) : Int) ∨ _)
      by_cases c : spec_l2Ends.low l0 l1 i s.1 = true
      · have c' := low_iff.mp c
        simp only [c, if_true]
        rcases Nat.lt_succ_iff_lt_or_eq.mp hj with h | rfl
        · have := h1 j h; omega
        · omega
      · have c' := fun h => c (low_iff.mpr h)
        simp only [Bool.not_eq_true] at c
        simp only [c, Bool.false_eq_true, if_false]
        rcases Nat.lt_succ_iff_lt_or_eq.mp hj with h | rfl
        · exact h1 j h
        · exact c'
    · intro j hj
      show ¬ (rd l1 ((if spec_l2Ends.high l0 l1 i s.2.1 then i else s.2.1 : Nat) : Int) < rd l1 j ∨ _)
      by_cases c : spec_l2Ends.high l0 l1 i s.2.1 = true
      · have c' := high_iff.mp c
        simp only [c, if_true]
        rcases Nat.lt_succ_iff_lt_or_eq.mp hj with h | rfl
        · have := h2 j h; omega
        · omega
      · have c' := fun h => c (high_iff.mpr h)
        simp only [Bool.not_eq_true] at c
        simp only [c, Bool.false_eq_true, if_false]
        rcases Nat.lt_succ_iff_lt_or_eq.mp hj with h | rfl
        · exact h2 j h
        · exact c'
    · show ((if rd l1 i = 0 then s.2.2 else 4) = 4 ∧ _) ∨ ((if rd l1 i = 0 then s.2.2 else 4) = 0 ∧ _)
      by_cases c : rd l1 i = 0
      · rw [if_pos c]
        rcases h3 with ⟨h, j, hj, hne⟩ | ⟨h, ha⟩
        · exact .inl ⟨h, j, by omega, hne⟩
        · refine .inr ⟨h, fun j hj => ?_⟩
          rcases Nat.lt_succ_iff_lt_or_eq.mp hj with hh | rfl
          · exact ha j hh
          · exact c
      · rw [if_neg c]
        exact .inl ⟨rfl, i, by omega, c⟩
def lowE (s : List Int × Bool × Bool) : List Int := if s.2.1 then s.1 ++ [-9223372036854775808] else s.1
def highE (s : List Int × Bool × Bool) : List Int := if s.2.2 then s.1 ++ [9223372036854775807] else s.1
def alE (s : List Int × Bool × Bool) (al : Int) : Int := if s.2.1 || s.2.2 then Go.bits .or .i64 al 4 else al
theorem valC_is (s : List Int × Bool × Bool) (al : Int) : Cor.valC s al = (match lowE s, highE s with
  | x :: xs, y :: ys => (Cor.minF x xs, Cor.maxF y ys, true, alE s al)
  | _, _ => (0, 0, false, alE s al)) := rfl
theorem lowE_mem {s : List Int × Bool × Bool} {y : Int} : y ∈ lowE s ↔ y ∈ s.1 ∨ (s.2.1 = true ∧ y = -9223372036854775808) := by
  unfold lowE
  cases s.2.1 <;> simp
theorem highE_mem {s : List Int × Bool × Bool} {y : Int} : y ∈ highE s ↔ y ∈ s.1 ∨ (s.2.2 = true ∧ y = 9223372036854775807) := by
  unfold highE
  cases s.2.2 <;> simp
theorem ends_val (l0 l1 : List Int) (n : Nat) (hn : 0 < n) (s : List Int × Bool × Bool) (hbe : s.2.1 = true ↔ ∃ j : Nat, j < n ∧ rd l1 j < 0) (hab : s.2.2 = true ↔ ∃ j : Nat, j < n ∧ 0 < rd l1 j)
    (hL : ∀ x, x ∈ s.1 ↔ ∃ j : Nat, j < n ∧ rd l1 j = 0 ∧ rd l0 j = x) (hr : ∀ j : Nat, j < n → -9223372036854775808 ≤ rd l0 j ∧ rd l0 j ≤ 9223372036854775807) :
    spec_l2Ends.fin l0 l1 (spec_l2Ends.st l0 l1 n) = Cor.valC s 0 := by
  obtain ⟨i1, i2, i3⟩ := st_inv l0 l1 n
  obtain ⟨m1, m2⟩ := spec_l2Ends.st_lt l0 l1 n hn n (Nat.le_refl _)
  generalize spec_l2Ends.st l0 l1 n = t at i1 i2 i3 m1 m2
  obtain ⟨m, M, al⟩ := t
  simp only at i1 i2 i3 m1 m2
  have eal : alE s 0 = al := by
    unfold alE
    by_cases c : s.2.1 = true ∨ s.2.2 = true
    · have cc : (s.2.1 || s.2.2) = true := by simpa using c
      rw [if_pos cc]
      rcases i3 with ⟨h, _⟩ | ⟨_, h⟩
      · rw [h]; rfl
      · exfalso
        rcases c with c | c
        · obtain ⟨j, hj, h'⟩ := hbe.mp c; have := h j hj; omega
        · obtain ⟨j, hj, h'⟩ := hab.mp c; have := h j hj; omega
    · have cc : ¬ ((s.2.1 || s.2.2) = true) := by simpa using c
      rw [if_neg cc]
      rcases i3 with ⟨_, j, hj, hne⟩ | ⟨h, _⟩
      · exfalso
        rcases Int.lt_trichotomy (rd l1 j) 0 with h | h | h
        · exact c (.inl (hbe.mpr ⟨j, hj, h⟩))
        · exact hne h
        · exact c (.inr (hab.mpr ⟨j, hj, h⟩))
      · exact h.symm
  have lowk : (lowE s = [] → 0 < rd l1 m) ∧ (∀ x xs, lowE s = x :: xs → rd l1 m ≤ 0 ∧ (if rd l1 m < 0 then -9223372036854775808 else rd l0 m) = Cor.minF x xs) := by
    refine ⟨fun h => ?_, fun x xs h => ?_⟩
    · rcases Int.lt_trichotomy (rd l1 m) 0 with c | c | c
      · exact absurd (lowE_mem.mpr (.inr ⟨hbe.mpr ⟨m, m1, c⟩, rfl⟩)) (by rw [h]; simp)
      · exact absurd (lowE_mem.mpr (.inl ((hL _).mpr ⟨m, m1, c, rfl⟩))) (by rw [h]; simp)
      · exact c
    · obtain ⟨q1, q2⟩ := minF_spec xs x
      rw [← h] at q1 q2
      have hx : x ∈ lowE s := by rw [h]; simp
      have hle : rd l1 m ≤ 0 := by
        rcases lowE_mem.mp hx with c | ⟨c, _⟩
        · obtain ⟨j, hj, h0, _⟩ := (hL _).mp c; have := i1 j hj; omega
        · obtain ⟨j, hj, h0⟩ := hbe.mp c; have := i1 j hj; omega
      refine ⟨hle, ?_⟩
      by_cases c : rd l1 m < 0
      · rw [if_pos c]
        have g1 := q2 _ (lowE_mem.mpr (.inr ⟨hbe.mpr ⟨m, m1, c⟩, rfl⟩))
        rcases lowE_mem.mp q1 with g | ⟨_, g⟩
        · obtain ⟨j, hj, _, e⟩ := (hL _).mp g; have := hr j hj; omega
        · omega
      · rw [if_neg c]
        have g1 := q2 _ (lowE_mem.mpr (.inl ((hL _).mpr ⟨m, m1, by omega, rfl⟩)))
        rcases lowE_mem.mp q1 with g | ⟨g, _⟩
        · obtain ⟨j, hj, z, e⟩ := (hL _).mp g; have := i1 j hj; omega
        · obtain ⟨j, hj, h0⟩ := hbe.mp g; have := i1 j hj; omega
  have highk : (highE s = [] → rd l1 M < 0) ∧ (∀ x xs, highE s = x :: xs → 0 ≤ rd l1 M ∧ (if 0 < rd l1 M then 9223372036854775807 else rd l0 M) = Cor.maxF x xs) := by
    refine ⟨fun h => ?_, fun x xs h => ?_⟩
    · rcases Int.lt_trichotomy (rd l1 M) 0 with c | c | c
      · exact c
      · exact absurd (highE_mem.mpr (.inl ((hL _).mpr ⟨M, m2, c, rfl⟩))) (by rw [h]; simp)
      · exact absurd (highE_mem.mpr (.inr ⟨hab.mpr ⟨M, m2, c⟩, rfl⟩)) (by rw [h]; simp)
    · obtain ⟨q1, q2⟩ := maxF_spec xs x
      rw [← h] at q1 q2
      have hx : x ∈ highE s := by rw [h]; simp
      have hle : 0 ≤ rd l1 M := by
        rcases highE_mem.mp hx with c | ⟨c, _⟩
        · obtain ⟨j, hj, h0, _⟩ := (hL _).mp c; have := i2 j hj; omega
        · obtain ⟨j, hj, h0⟩ := hab.mp c; have := i2 j hj; omega
      refine ⟨hle, ?_⟩
      by_cases c : 0 < rd l1 M
      · rw [if_pos c]
        have g1 := q2 _ (highE_mem.mpr (.inr ⟨hab.mpr ⟨M, m2, c⟩, rfl⟩))
        rcases highE_mem.mp q1 with g | ⟨_, g⟩
        · obtain ⟨j, hj, _, e⟩ := (hL _).mp g; have := hr j hj; omega
        · omega
      · rw [if_neg c]
        have g1 := q2 _ (highE_mem.mpr (.inl ((hL _).mpr ⟨M, m2, by omega, rfl⟩)))
        rcases highE_mem.mp q1 with g | ⟨g, _⟩
        · obtain ⟨j, hj, z, e⟩ := (hL _).mp g; have := i2 j hj; omega
        · obtain ⟨j, hj, h0⟩ := hab.mp g; have := i2 j hj; omega
  rw [valC_is, eal]
  show (if 0 < rd l1 m ∨ rd l1 M < 0 then (0, 0, false, al) else (if rd l1 m < 0 then -9223372036854775808 else rd l0 m, if 0 < rd l1 M then 9223372036854775807 else rd l0 M, true, al)) = _
  cases hlow : lowE s with
  | nil => rw [if_pos (.inl (lowk.1 hlow))]
  | cons x xs =>
    obtain ⟨a1, a2⟩ := lowk.2 x xs hlow
    cases hhigh : highE s with
    | nil => rw [if_pos (.inr (highk.1 hhigh))]
    | cons y ys =>
      obtain ⟨b1, b2⟩ := highk.2 y ys hhigh
      rw [if_neg (by omega), a2, b2]
/-- The marks and the list behind some pairs. -/
theorem fold_spec : ∀ (ps : List (Int × Int)) (s : List Int × Bool × Bool), (((ps.foldl (fun s p => Cor.addC s p.1 p.2) s).2.1 = true ↔ s.2.1 = true ∨ ∃ p ∈ ps, p.2 < 0) ∧ ((ps.foldl (fun s p => Cor.addC s p.1 p.2) s).2.2 = true ↔ s.2.2 = true ∨ ∃ p ∈ ps, 0 < p.2)) ∧
    ∀ x, x ∈ (ps.foldl (fun s p => Cor.addC s p.1 p.2) s).1 ↔ x ∈ s.1 ∨ ∃ p ∈ ps, p.2 = 0 ∧ p.1 = x
  | [], s => by simp
  | p :: ps, s => by
    obtain ⟨⟨h1, h2⟩, h3⟩ := fold_spec ps (Cor.addC s p.1 p.2)
    rw [List.foldl_cons]
    rcases Int.lt_trichotomy p.2 0 with c | c | c
    · have e : Cor.addC s p.1 p.2 = (s.1, true, s.2.2) := if_pos c
      rw [e] at h1 h2 h3 ⊢
      refine ⟨⟨by rw [h1]; simp [c], by rw [h2]; simp [show ¬ 0 < p.2 by omega]⟩, fun x => by rw [h3]; simp [show ¬ p.2 = 0 by omega]⟩
    · have e : Cor.addC s p.1 p.2 = (s.1 ++ [p.1], s.2.1, s.2.2) := (if_neg (by omega)).trans (if_neg (by omega))
      rw [e] at h1 h2 h3 ⊢
      refine ⟨⟨by rw [h1]; simp [c], by rw [h2]; simp [c]⟩, fun x => by rw [h3]; simp [c, or_assoc, eq_comm]⟩
    · have e : Cor.addC s p.1 p.2 = (s.1, s.2.1, true) := (if_neg (by omega)).trans (if_pos c)
      rw [e] at h1 h2 h3 ⊢
      refine ⟨⟨by rw [h1]; simp [show ¬ p.2 < 0 by omega], by rw [h2]; simp [c]⟩, fun x => by rw [h3]; simp [show ¬ p.2 = 0 by omega]⟩
theorem ex_idx (ps : List (Int × Int)) (P : Int → Int → Prop) : (∃ j : Nat, j < ps.length ∧ P (rd (ps.map (·.1)) j) (rd (ps.map (·.2)) j)) ↔ ∃ p ∈ ps, P p.1 p.2 := by
  have key : ∀ (j : Nat) (h : j < ps.length), rd (ps.map (·.1)) j = ps[j].1 ∧ rd (ps.map (·.2)) j = ps[j].2 := by
    intro j h
    unfold rd
    simp [List.getD_eq_getElem?_getD, h]
  constructor
  · rintro ⟨j, hj, h⟩
    rw [(key j hj).1, (key j hj).2] at h
    exact ⟨ps[j], List.getElem_mem _, h⟩
  · rintro ⟨p, hp, h⟩
    obtain ⟨j, hj, rfl⟩ := List.mem_iff_getElem.mp hp
    exact ⟨j, hj, by rw [(key j hj).1, (key j hj).2]; exact h⟩
/-- The ends of pairs, in whatever order they are taken up. -/
theorem ends_pairs (ps qs : List (Int × Int)) (hne : ps ≠ []) (hle : ps.length ≤ 1000) (hpq : ∀ p, p ∈ ps ↔ p ∈ qs) (hr : ∀ p ∈ ps, -9223372036854775808 ≤ p.1 ∧ p.1 ≤ 9223372036854775807) :
    spec_l2Ends.f (ps.map (·.1)) (ps.map (·.2)) = some (Cor.valC (qs.foldl (fun s p => Cor.addC s p.1 p.2) ([], false, false)) 0) := by
  have hn : 0 < ps.length := List.length_pos_iff.mpr hne
  obtain ⟨⟨f1, f2⟩, f3⟩ := fold_spec qs ([], false, false)
  unfold spec_l2Ends.f
  rw [if_pos (by simpa using hle)]
  simp only [List.length_map]
  rw [if_neg (by omega), ends_val _ _ _ hn _ ?_ ?_ ?_ ?_]
  · rw [f1]
    have := ex_idx ps (fun _ o => o < 0)
    simp only [this, hpq, Bool.false_eq_true, false_or]
  · rw [f2]
    have := ex_idx ps (fun _ o => 0 < o)
    simp only [this, hpq, Bool.false_eq_true, false_or]
  · intro x
    rw [f3]
    have := ex_idx ps (fun n o => o = 0 ∧ n = x)
    simp only [this, hpq, List.not_mem_nil, false_or]
  · intro j hj
    have h := (ex_idx ps (fun n _ => ¬ (-9223372036854775808 ≤ n ∧ n ≤ 9223372036854775807)))
    by_cases c : -9223372036854775808 ≤ rd (ps.map (·.1)) j ∧ rd (ps.map (·.1)) j ≤ 9223372036854775807
    · exact c
    · obtain ⟨p, hp, hh⟩ := h.mp ⟨j, hj, c⟩
      exact absurd (hr p hp) hh

theorem box_round (k : Nat) (op : Int) (F : Int → Int → Int × Int) (x2 : List S24) (x7 x8 : List Int) (x9 a b c d : Int) (h7 : x7.length ≤ 100) (h8 : x8.length ≤ 100)
    (h0 : spec_l2Corner.f op a c = some (F a c)) (h1 : spec_l2Corner.f op b c = some (F b c)) (h2 : spec_l2Corner.f op a d = some (F a d)) (h3 : spec_l2Corner.f op b d = some (F b d)) :
    spec_l2Box.l1 (k + 5) op x2 x7 x8 x9 0 a b c d = spec_l2Box.l0 k op x2 (x7 ++ [(F a c).1, (F b c).1, (F a d).1, (F b d).1]) (x8 ++ [(F a c).2, (F b c).2, (F a d).2, (F b d).2]) (wrap64 (x9 + 1)) a b := by
  have st : ∀ (k : Nat) (i x y : Int) (z7 z8 : List Int), i < 4 → 0 ≤ Int.tmod i 2 → Int.tmod i 2 < 2 → 0 ≤ wrap64 (Int.tdiv i 2) → wrap64 (Int.tdiv i 2) < 2 → rd [a, b] (Int.tmod i 2) = x → rd [c, d] (wrap64 (Int.tdiv i 2)) = y → spec_l2Corner.f op x y = some (F x y) → z7.length ≤ 200 → z8.length ≤ 200 →
      spec_l2Box.l1 (k + 1) op x2 z7 z8 x9 i a b c d = spec_l2Box.l1 k op x2 (z7 ++ [(F x y).1]) (z8 ++ [(F x y).2]) x9 (wrap64 (i + 1)) a b c d := by
    intro k i x y z7 z8 g0 g1 g2 g3 g4 g5 g6 g7 g8 g9
    rw [spec_l2Box.l1]
    simp only [Option.bind_some, List.length_cons, List.length_nil]
    rw [if_pos g0, if_pos g1, if_pos (by omega), if_pos g3, if_pos (by omega), g5, g6, g7]
    simp only [Option.bind_some]
    rw [if_pos (by omega), if_pos (by omega)]
  rw [st (k + 4) 0 a c x7 x8 (by decide +kernel) (by decide +kernel) (by decide +kernel) (by decide +kernel) (by decide +kernel) rfl (by rw [show wrap64 (Int.tdiv 0 2) = 0 from by decide +kernel]; rfl) h0 (by omega) (by omega)]
  rw [show wrap64 (0 + 1) = 1 from by decide +kernel]
  rw [st (k + 3) 1 b c _ _ (by decide +kernel) (by decide +kernel) (by decide +kernel) (by decide +kernel) (by decide +kernel) rfl (by rw [show wrap64 (Int.tdiv 1 2) = 0 from by decide +kernel]; rfl) h1 (by simp; omega) (by simp; omega)]
  rw [show wrap64 (1 + 1) = 2 from by decide +kernel]
  rw [st (k + 2) 2 a d _ _ (by decide +kernel) (by decide +kernel) (by decide +kernel) (by decide +kernel) (by decide +kernel) rfl (by rw [show wrap64 (Int.tdiv 2 2) = 1 from by decide +kernel]; rfl) h2 (by simp; omega) (by simp; omega)]
  rw [show wrap64 (2 + 1) = 3 from by decide +kernel]
  rw [st (k + 1) 3 b d _ _ (by decide +kernel) (by decide +kernel) (by decide +kernel) (by decide +kernel) (by decide +kernel) rfl (by rw [show wrap64 (Int.tdiv 3 2) = 1 from by decide +kernel]; rfl) h3 (by simp; omega) (by simp; omega)]
  rw [show wrap64 (3 + 1) = 4 from by decide +kernel]
  rw [spec_l2Box.l1, if_neg (by decide)]
  simp only [List.append_assoc, List.singleton_append, List.cons_append, List.nil_append]

/-- What two intervals have in common. -/
def meetV (a b c d : Int) : Int × Int × Bool := if a ≤ b ∧ c ≤ d ∧ mx a c ≤ mn b d then (mx a c, mn b d, true) else (0, 0, false)
theorem impl_IvMeet_is (a b c d : Int) : impl_IvMeet.f a b c d = some (meetV a b c d) := by
  simp only [impl_IvMeet.f, impl_areIvs.f, impl_IvOk.f, meetV, Option.bind_some]
  by_cases h0 : a ≤ b <;> by_cases h1 : c ≤ d <;> by_cases h2 : mx a c ≤ mn b d <;> simp [h0, h1, h2]

/-- What is below 0 of a right interval, and what is above. -/
def partsV (c d : Int) : List S24 := (if c < 0 then [⟨c, mn d (-1)⟩] else []) ++ (if 0 < d then [⟨mx c 1, d⟩] else [])
theorem parts_is (c d : Int) : spec_l2Parts.f c d = some (partsV c d) := by
  unfold spec_l2Parts.f partsV
  by_cases h1 : c < 0 <;> by_cases h2 : 0 < d <;> simp [h1, h2]
theorem has_is (c d n : Int) : impl_Interval_has.f c d n = some (decide (c ≤ n ∧ n ≤ d)) := by
  unfold impl_Interval_has.f impl_within.f
  by_cases h1 : c ≤ n <;> by_cases h2 : n ≤ d <;> simp [h1, h2]
theorem divisors_is (k : Nat) (hk : 1 ≤ k) (c d : Int) (hcd : c ≤ d) (hc : -9223372036854775808 ≤ c) (hd : d ≤ 9223372036854775807) : impl_divisors.f k c d = some (partsV c d, if c ≤ 0 ∧ 0 ≤ d then 1 else 0) := by
  obtain ⟨k, rfl⟩ : ∃ m, k = m + 1 := ⟨k - 1, by omega⟩
  have m1 : meetV c d (-9223372036854775808) (-1) = if c < 0 then (c, mn d (-1), true) else (0, 0, false) := by
    have e1 : mx c (-9223372036854775808) = c := by unfold mx; split <;> omega
    unfold meetV
    rw [e1]
    by_cases h : c < 0
    · rw [if_pos ⟨hcd, by omega, by unfold mn; split <;> omega⟩, if_pos h]
    · rw [if_neg (fun x => h (by have := x.2.2; unfold mn at this; split at this <;> omega)), if_neg h]
  have m2 : meetV c d 1 9223372036854775807 = if 0 < d then (mx c 1, d, true) else (0, 0, false) := by
    have e1 : mn d 9223372036854775807 = d := by unfold mn; split <;> omega
    unfold meetV
    rw [e1]
    by_cases h : 0 < d
    · rw [if_pos ⟨hcd, by omega, by unfold mx; split <;> omega⟩, if_pos h]
    · rw [if_neg (fun x => h (by have := x.2.2; unfold mx at this; split at this <;> omega)), if_neg h]
  have j : ∀ l : List S24, l.length ≤ 10 → impl_divisors.j0 (k + 1) l c d = some (l ++ (if 0 < d then [⟨mx c 1, d⟩] else []), if c ≤ 0 ∧ 0 ≤ d then 1 else 0) := by
    intro l hl
    rw [impl_divisors.j0]
    simp only [impl_IvMeet_is, m2, has_is, Option.bind_some]
    by_cases h : 0 < d
    · rw [if_pos h, if_pos h]
      simp only [if_true]
      rw [if_pos (by omega)]
      by_cases g : c ≤ 0 ∧ 0 ≤ d <;> simp [g]
    · rw [if_neg h, if_neg h]
      by_cases g : c ≤ 0 ∧ 0 ≤ d <;> simp [g]
  unfold impl_divisors.f partsV
  simp only [impl_IvMeet_is, m1, Option.bind_some]
  by_cases h : c < 0
  · rw [if_pos h, if_pos h]
    simp only [if_true]
    rw [if_pos (by simp), j _ (by simp)]
    rfl
  · rw [if_neg h, if_neg h]
    simp only [Bool.false_eq_true, if_false]
    rw [j _ (by simp)]

theorem spec_NumSub_is {a b : Int} (ha : -9223372036854775808 ≤ a ∧ a ≤ 9223372036854775807) (hb : -9223372036854775808 ≤ b ∧ b ≤ 9223372036854775807) :
    spec_NumSub.f a b = some (Math.subV a b) := by
  unfold spec_NumSub.f
  rw [if_pos ⟨ha, hb⟩]

theorem spec_NumQuo_is {a b : Int} (ha : -9223372036854775808 ≤ a ∧ a ≤ 9223372036854775807) :
    spec_NumQuo.f a b = some (Math.quoV a b) := by
  unfold spec_NumQuo.f Math.quoV
  by_cases h0 : b = 0
  · rw [if_pos h0, if_pos h0]
  · rw [if_neg h0, if_neg h0]
    by_cases h1 : b = -1
    · subst h1
      rw [if_pos rfl, spec_NumSub_is (by omega) ha]
      simp only [Option.bind_some, Math.subV]
      by_cases h2 : a = -9223372036854775808
      · subst h2; simp
      · rw [if_neg (by omega), if_neg (by omega), if_neg (by omega)]
        simp
    · have hn : ¬ (a = -9223372036854775808 ∧ b = -1) := fun h => h1 h.2
      have hi := Math.tdiv_in ha.1 ha.2 hn
      rw [if_neg h1, if_neg hn, Math.w64_id hi.1 hi.2]

theorem quoV_in {x : Int} (y : Int) (hx : -9223372036854775808 ≤ x ∧ x ≤ 9223372036854775807) : -9223372036854775808 ≤ (Math.quoV x y).1 ∧ (Math.quoV x y).1 ≤ 9223372036854775807 := by
  unfold Math.quoV
  split
  · simp
  · split
    · simp
    · rename_i h1 h2
      exact Math.tdiv_in hx.1 hx.2 h2
theorem quo_corner {x : Int} (y : Int) (hx : -9223372036854775808 ≤ x ∧ x ≤ 9223372036854775807) : spec_l2Corner.f 47 x y = some (Math.quoV x y) := by
  unfold spec_l2Corner.f
  rw [if_neg (by decide), if_neg (by decide), if_neg (by decide), spec_NumQuo_is hx]
  rfl
theorem eta4 (o : Option (Int × Int × Bool × Int)) : (o.bind fun b => some (b.1, b.2.1, b.2.2.1, b.2.2.2)) = o := by cases o <;> rfl
theorem quo_val (a b : Int) (l : List S24) (hl : l.length ≤ 2) (ha : -9223372036854775808 ≤ a ∧ a ≤ 9223372036854775807) (hb : -9223372036854775808 ≤ b ∧ b ≤ 9223372036854775807) :
    spec_l2Box.f 20 47 a b l = some (Cor.valC (ByCor.quoS Math.quoV a b (impl_IvQuo.ds l) l.length) 0) := by
  have fa := fun y => quo_corner y ha
  have fb := fun y => quo_corner y hb
  match l, hl with
  | [], _ =>
    unfold spec_l2Box.f
    rw [spec_l2Box.l0, if_neg (by simp), eta4]
    rfl
  | [⟨c, d⟩], _ =>
    have e := ends_pairs [Math.quoV a c, Math.quoV b c, Math.quoV a d, Math.quoV b d] [Math.quoV a c, Math.quoV a d, Math.quoV b c, Math.quoV b d] (by simp) (by simp) (by intro p; constructor <;> (intro h; simp only [List.mem_cons, List.not_mem_nil, or_false] at h ⊢; rcases h with h | h | h | h <;> simp [h]))
      (by intro p hp; simp only [List.mem_cons, List.not_mem_nil, or_false] at hp; rcases hp with rfl | rfl | rfl | rfl <;> first | exact quoV_in _ ha | exact quoV_in _ hb)
    unfold spec_l2Box.f
    rw [spec_l2Box.l0, if_pos (by simp), if_pos (by decide)]
    show spec_l2Box.l1 (14 + 5) 47 _ [] [] 0 0 a b c d = _
    rw [box_round 14 47 Math.quoV _ [] [] 0 a b c d (by simp) (by simp) (fa c) (fb c) (fa d) (fb d)]
    rw [spec_l2Box.l0, show wrap64 (0 + 1) = 1 from by decide +kernel, if_neg (by simp), eta4]
    simp only [List.nil_append]
    simp only [List.map_cons, List.map_nil] at e
    rw [e]
    rfl
  | [⟨c, d⟩, ⟨c2, d2⟩], _ =>
    have e := ends_pairs [Math.quoV a c, Math.quoV b c, Math.quoV a d, Math.quoV b d, Math.quoV a c2, Math.quoV b c2, Math.quoV a d2, Math.quoV b d2] [Math.quoV a c, Math.quoV a d, Math.quoV b c, Math.quoV b d, Math.quoV a c2, Math.quoV a d2, Math.quoV b c2, Math.quoV b d2] (by simp) (by simp)
      (by intro p; constructor <;> (intro h; simp only [List.mem_cons, List.not_mem_nil, or_false] at h ⊢; rcases h with h | h | h | h | h | h | h | h <;> simp [h]))
      (by intro p hp; simp only [List.mem_cons, List.not_mem_nil, or_false] at hp; rcases hp with rfl | rfl | rfl | rfl | rfl | rfl | rfl | rfl <;> first | exact quoV_in _ ha | exact quoV_in _ hb)
    unfold spec_l2Box.f
    rw [spec_l2Box.l0, if_pos (by simp), if_pos (by decide)]
    show spec_l2Box.l1 (14 + 5) 47 _ [] [] 0 0 a b c d = _
    rw [box_round 14 47 Math.quoV _ [] [] 0 a b c d (by simp) (by simp) (fa c) (fb c) (fa d) (fb d)]
    rw [spec_l2Box.l0, show wrap64 (0 + 1) = 1 from by decide +kernel, if_pos (by simp), if_pos (by decide)]
    show spec_l2Box.l1 (8 + 5) 47 _ _ _ 1 0 a b c2 d2 = _
    rw [box_round 8 47 Math.quoV _ _ _ 1 a b c2 d2 (by simp) (by simp) (fa c2) (fb c2) (fa d2) (fb d2)]
    rw [spec_l2Box.l0, show wrap64 (1 + 1) = 2 from by decide +kernel, if_neg (by simp), eta4]
    simp only [List.nil_append, List.cons_append]
    simp only [List.map_cons, List.map_nil] at e
    rw [e]
    rfl
theorem valC_al (s : List Int × Bool × Bool) : Cor.valC s 1 = ((Cor.valC s 0).1, (Cor.valC s 0).2.1, (Cor.valC s 0).2.2.1, Go.bits .or .i64 (Cor.valC s 0).2.2.2 1) := by
  have h : alE s 1 = Go.bits .or .i64 (alE s 0) 1 := by
    unfold alE
    cases (s.2.1 || s.2.2)
    · rfl
    · rfl
  rw [valC_is, valC_is, h]
  cases lowE s <;> cases highE s <;> rfl
theorem quo_same (a b c d : Int) (ha : -9223372036854775808 ≤ a ∧ a ≤ 9223372036854775807) (hb : -9223372036854775808 ≤ b ∧ b ≤ 9223372036854775807) (hc : -9223372036854775808 ≤ c ∧ c ≤ 9223372036854775807) (hd : -9223372036854775808 ≤ d ∧ d ≤ 9223372036854775807) : ∃ v, spec_IvQuo.f 21 a b c d = some v ∧ impl_IvQuo.f a b c d = some v := by
  by_cases g : a ≤ b ∧ c ≤ d
  · obtain ⟨g1, g2⟩ := g
    have hl : (partsV c d).length ≤ 2 := by unfold partsV; split <;> split <;> simp
    have hbd : ∀ x ∈ partsV c d, (-9223372036854775808 ≤ x.f0 ∧ x.f0 ≤ 9223372036854775807) ∧ (-9223372036854775808 ≤ x.f1 ∧ x.f1 ≤ 9223372036854775807) := by
      intro x hx
      have m1 : -9223372036854775808 ≤ mn d (-1) ∧ mn d (-1) ≤ 9223372036854775807 := by unfold mn; split <;> omega
      have m2 : -9223372036854775808 ≤ mx c 1 ∧ mx c 1 ≤ 9223372036854775807 := by unfold mx; split <;> omega
      unfold partsV at hx
      rcases List.mem_append.mp hx with h | h
      · split at h
        · rw [List.mem_singleton] at h; subst h; exact ⟨hc, m1⟩
        · simp at h
      · split at h
        · rw [List.mem_singleton] at h; subst h; exact ⟨m2, hd⟩
        · simp at h
    have hi : ∀ i, i < (partsV c d).length → (-9223372036854775808 ≤ ((impl_IvQuo.ds (partsV c d)).getD i (0, 0)).1 ∧ ((impl_IvQuo.ds (partsV c d)).getD i (0, 0)).1 ≤ 9223372036854775807) ∧ (-9223372036854775808 ≤ ((impl_IvQuo.ds (partsV c d)).getD i (0, 0)).2 ∧ ((impl_IvQuo.ds (partsV c d)).getD i (0, 0)).2 ≤ 9223372036854775807) := by
      intro i h
      have e : (impl_IvQuo.ds (partsV c d)).getD i (0, 0) = ((partsV c d)[i].f0, (partsV c d)[i].f1) := by
        unfold impl_IvQuo.ds
        simp [List.getD_eq_getElem?_getD, h]
      rw [e]
      exact hbd _ (List.getElem_mem _)
    have e2 : impl_IvQuo.f a b c d = some (Cor.valC (ByCor.quoS Math.quoV a b (impl_IvQuo.ds (partsV c d)) (partsV c d).length) (if c ≤ 0 ∧ 0 ≤ d then 1 else 0)) := by
      unfold impl_IvQuo.f
      rw [if_pos ⟨ha, hb, hc, hd⟩, if_pos ⟨g1, g2⟩, divisors_is 1 (by omega) c d g2 hc.1 hd.2]
      simp only [Option.bind_some]
      rw [if_pos ⟨hl, hi⟩]
    have eh : spec_IvHas.f c d 0 = some (decide (c ≤ 0 ∧ 0 ≤ d)) := by
      unfold spec_IvHas.f
      by_cases h1 : c ≤ 0 <;> by_cases h2 : 0 ≤ d <;> simp [h1, h2]
    refine ⟨_, ?_, e2⟩
    unfold spec_IvQuo.f
    simp only [spec_IvOk.f, Option.bind_some, g1, g2, decide_true, if_true, Bool.not_true]
    rw [spec_IvQuo.j0]
    simp only [Bool.false_eq_true, if_false, parts_is, quo_val a b _ hl ha hb, eh, Option.bind_some, decide_eq_true_eq]
    by_cases h : c ≤ 0 ∧ 0 ≤ d
    · rw [if_pos h, if_pos h, valC_al]
    · rw [if_neg h, if_neg h]
  · refine ⟨(0, 0, false, 0), ?_, ?_⟩
    · by_cases g1 : a ≤ b
      · have g2 : ¬ c ≤ d := fun x => g ⟨g1, x⟩
        simp [spec_IvQuo.f, spec_IvQuo.j0, spec_IvOk.f, g1, g2]
      · simp [spec_IvQuo.f, spec_IvQuo.j0, spec_IvOk.f, g1]
    · unfold impl_IvQuo.f
      rw [if_pos ⟨ha, hb, hc, hd⟩, if_neg g]
theorem FnExactIvQuo (a0_0 a0_1 a1_0 a1_1 : Int) (b0_0 : (-9223372036854775808 ≤ a0_0 ∧ a0_0 ≤ 9223372036854775807)) (b0_1 : (-9223372036854775808 ≤ a0_1 ∧ a0_1 ≤ 9223372036854775807)) (b1_0 : (-9223372036854775808 ≤ a1_0 ∧ a1_0 ≤ 9223372036854775807)) (b1_1 : (-9223372036854775808 ≤ a1_1 ∧ a1_1 ≤ 9223372036854775807)) : ∃ k, laws_FnExactIvQuo.f k a0_0 a0_1 a1_0 a1_1 = some true := by
  refine ⟨21, ?_⟩
  obtain ⟨v, e1, e2⟩ := quo_same a0_0 a0_1 a1_0 a1_1 b0_0 b0_1 b1_0 b1_1
  simp only [laws_FnExactIvQuo.f, laws_toInterval.f, Option.bind_some, e1, e2, laws_eqVal.f, laws_eqInterval.f]
  simp

end Go.Proofs.Ytbfiejpckncfkaa.PureFnExactIvQuo
