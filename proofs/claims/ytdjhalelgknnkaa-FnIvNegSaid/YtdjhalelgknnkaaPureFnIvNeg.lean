/- Turned twice an interval that does not begin with the least number is the same, for every code: the law's function returns true. Conditions: none. -/
import Derived.Test.YtdjhalelgknnkaaQx0
import Derived.Test.YtdjhalelgknnkaaQx2
import Derived.Test.YtdjhalelgknnkaaQx3
import Derived.Test.YtdjhalelgknnkaaQx4
import Derived.Test.YtdjhalelgknnkaaQx5
import Derived.Test.YtdjhalelgknnkaaQx6
import Derived.Test.YtdjhalelgknnkaaQx7
import Derived.Test.YtdjhalelgknnkaaQx8
import Derived.Test.YtdjhalelgknnkaaQx9
import Derived.Test.YtdjhalelgknnkaaQx10
import Derived.Test.YtdjhalelgknnkaaQx11
import Derived.Test.YtdjhalelgknnkaaQx12
import Derived.Test.YtdjhalelgknnkaaQx15
import Derived.Test.YtdjhalelgknnkaaQx16
import Derived.Test.YtdjhalelgknnkaaQx17
import Derived.Test.YtdjhalelgknnkaaQx21
import Derived.Test.YtdjhalelgknnkaaQx22
import Derived.Test.YtdjhalelgknnkaaQx23
import Derived.Test.YtdjhalelgknnkaaQx24
import Derived.Test.YtdjhalelgknnkaaQx25
import Derived.Test.YtdjhalelgknnkaaQx26
import Derived.Test.YtdjhalelgknnkaaQx27
import Derived.Test.YtdjhalelgknnkaaMath
namespace Go.Proofs.Ytdjhalelgknnkaa.PureFnIvNeg
open Go.RowKit Go.Proofs.Ytdjhalelgknnkaa Go.Proofs.Ytdjhalelgknnkaa.Q Go.Proofs.YtdjhalelgknnkaaW.PrintWords Go.Proofs.YtdjhalelgknnkaaW.PrintLast
set_option linter.unusedVariables false
set_option linter.unusedSimpArgs false

/-- A code of bytes, and a place in it. -/
def St (l : List Int) (p : Int) : Prop := (∀ x ∈ l, 0 ≤ x ∧ x ≤ 255) ∧ l.length ≤ 1048576 ∧ 0 ≤ p ∧ p ≤ l.length
theorem rd_mem {xs : List Int} {i : Int} (h0 : 0 ≤ i) (h1 : i < xs.length) : rd xs i ∈ xs := by
  unfold rd
  rw [List.getD_eq_getElem?_getD, List.getElem?_eq_getElem (by omega), Option.getD_some]
  exact List.getElem_mem _
theorem w64_in (x : Int) : -9223372036854775808 ≤ wrap64 x ∧ wrap64 x ≤ 9223372036854775807 := by
  unfold wrap64; omega
theorem next_ok {l : List Int} {p : Int} (h : St l p) : ∃ v q, spec_l1Rd_next.f l p = some (v, q) ∧ (0 ≤ v ∧ v ≤ 255) ∧ St l q := by
  obtain ⟨hb, hn, h0, h1⟩ := h
  unfold spec_l1Rd_next.f
  by_cases c : p ≥ (l.length : Int)
  · rw [if_pos c]; exact ⟨0, p, rfl, by omega, hb, hn, h0, h1⟩
  · have e1 : wrap64 (p + 1) = p + 1 := Math.w64_id (by omega) (by omega)
    have e2 : wrap64 (p + 1 - 1) = p := by rw [Math.w64_id (by omega) (by omega)]; omega
    have hv := hb _ (rd_mem h0 (show p < (l.length : Int) by omega))
    rw [if_neg c, e1, e2, if_pos h0, if_pos (by omega), Math.w64_id (by omega) (by omega)]
    exact ⟨rd l p, p + 1, rfl, hv, hb, hn, by omega, by omega⟩
theorem below_ok {l : List Int} {p : Int} (h : St l p) {n : Int} (h1 : 1 < n) (h2 : n ≤ 65536) : ∃ v q, spec_l1Rd_below.f l p n = some (v, q) ∧ (0 ≤ v ∧ v < n) ∧ St l q := by
  unfold spec_l1Rd_below.f
  rw [if_neg (by omega)]
  by_cases c : n ≤ 256
  · obtain ⟨v, q, e, hv, hq⟩ := next_ok h
    rw [if_pos c, e]
    simp only [Option.bind_some]
    rw [if_neg (by omega), Int.tmod_eq_emod_of_nonneg hv.1]
    exact ⟨_, q, rfl, ⟨Int.emod_nonneg _ (by omega), Int.emod_lt_of_pos _ (by omega)⟩, hq⟩
  · obtain ⟨v, q, e, hv, hq⟩ := next_ok h
    obtain ⟨v2, q2, e2, hv2, hq2⟩ := next_ok hq
    rw [if_neg c, e]
    simp only [Option.bind_some]
    rw [e2]
    simp only [Option.bind_some]
    rw [if_neg (by omega), Math.w64_id (x := v * 256) (by omega) (by omega), Math.w64_id (by omega) (by omega), Int.tmod_eq_emod_of_nonneg (by omega)]
    exact ⟨_, q2, rfl, ⟨Int.emod_nonneg _ (by omega), Int.emod_lt_of_pos _ (by omega)⟩, hq2⟩

theorem or_u64 (x y : Int) : 0 ≤ Go.bits .or .u64 x y ∧ Go.bits .or .u64 x y < 18446744073709551616 := by
  have := bounds_u64 (wf_bits .or .u64 x y)
  omega
theorem word_loop {l : List Int} (d : Nat) : ∀ (k : Nat) (x i p : Int), St l p → (0 ≤ x ∧ x < 18446744073709551616) → i + d = 8 → 0 ≤ i → d < k →
    ∃ v q, spec_l1Rd_word.l0 k x i l p = some (v, q) ∧ (0 ≤ v ∧ v < 18446744073709551616) ∧ St l q ∧ ∀ k', d < k' → spec_l1Rd_word.l0 k' x i l p = some (v, q) := by
  induction d with
  | zero =>
    intro k x i p h hx hi h0 hk
    have key : ∀ k', 0 < k' → spec_l1Rd_word.l0 k' x i l p = some (x, p) := by
      intro k' hk'
      obtain ⟨k', rfl⟩ : ∃ m, k' = m + 1 := ⟨k' - 1, by omega⟩
      simp only [spec_l1Rd_word.l0]; rw [if_neg (by omega)]
    exact ⟨x, p, key k hk, hx, h, key⟩
  | succ d ih =>
    intro k x i p h hx hi h0 hk
    obtain ⟨v, q, e, hv, hq⟩ := next_ok h
    obtain ⟨r, q2, _, hr, hq2, all⟩ := ih (d + 1) (Go.bits .or .u64 (IntKind.u64.wrap (x * 256)) (IntKind.u64.wrap v)) (i + 1) q hq (or_u64 _ _) (by omega) (by omega) (by omega)
    have key : ∀ k', d + 1 < k' → spec_l1Rd_word.l0 k' x i l p = some (r, q2) := by
      intro k' hk'
      obtain ⟨k', rfl⟩ : ∃ m, k' = m + 1 := ⟨k' - 1, by omega⟩
      simp only [spec_l1Rd_word.l0]
      rw [if_pos (by omega), e]
      simp only [Option.bind_some]
      rw [Math.w64_id (by omega) (by omega)]
      exact all k' (by omega)
    exact ⟨r, q2, key k hk, hr, hq2, key⟩
theorem word_ok {l : List Int} {p : Int} (h : St l p) : ∃ v q, (∀ k, 9 ≤ k → spec_l1Rd_word.f k l p = some (v, q)) ∧ (0 ≤ v ∧ v < 18446744073709551616) ∧ St l q := by
  obtain ⟨v, q, _, hv, hq, all⟩ := word_loop 8 9 0 0 p h (by omega) (by omega) (by omega) (by omega)
  exact ⟨v, q, fun k hk => all k (by omega), hv, hq⟩

theorem shr_in {x : Int} (y : Int) (h : -9223372036854775808 ≤ x ∧ x ≤ 9223372036854775807) : -9223372036854775808 ≤ shr .i64 x y ∧ shr .i64 x y ≤ 9223372036854775807 := by
  unfold shr
  have hp : (0 : Int) < 2 ^ min y.toNat IntKind.i64.bits := Int.pow_pos (by decide)
  generalize (2 : Int) ^ min y.toNat IntKind.i64.bits = z at hp
  constructor
  · rw [Int.le_ediv_iff_mul_le hp]
    by_cases h0 : (0 : Int) ≤ x
    · have := Int.mul_nonneg (show (0 : Int) ≤ 9223372036854775808 by decide) (Int.le_of_lt hp)
      have e : -9223372036854775808 * z = -(9223372036854775808 * z) := Int.neg_mul _ _
      omega
    · have : (9223372036854775808 : Int) * 1 ≤ 9223372036854775808 * z := Int.mul_le_mul_of_nonneg_left (by omega) (by omega)
      have e : -9223372036854775808 * z = -(9223372036854775808 * z) := Int.neg_mul _ _
      omega
  · by_cases h0 : (0 : Int) ≤ x
    · have := Int.ediv_le_self z h0
      omega
    · have : x / z < 0 := Int.ediv_lt_of_lt_mul hp (by omega)
      omega
theorem num_ok {l : List Int} {p : Int} (h : St l p) : ∃ v q, (∀ k, 9 ≤ k → spec_l1Rd_num.f k l p = some (v, q)) ∧ (-9223372036854775808 ≤ v ∧ v ≤ 9223372036854775807) ∧ St l q := by
  unfold spec_l1Rd_num.f
  obtain ⟨v, q, e, hv, hq⟩ := below_ok h (n := 6) (by decide) (by decide)
  rw [e]
  simp only [Option.bind_some]
  by_cases c0 : v = 0
  · simp only [if_pos c0]
    obtain ⟨i, q2, e2, hi, hq2⟩ := below_ok hq (n := 10) (by decide) (by decide)
    rw [e2]
    simp only [Option.bind_some]
    rw [if_pos hi.1, if_pos (by simpa using hi.2)]
    refine ⟨_, q2, fun _ _ => rfl, ?_, hq2⟩
    have hm := rd_mem (xs := [(-9223372036854775808), (-9223372036854775807), 9223372036854775807, 9223372036854775806, (-1), 0, 1, 4294967296, (-4294967296), 3037000500]) hi.1 (by simpa using hi.2)
    generalize rd _ i = z at hm
    simp only [List.mem_cons, List.not_mem_nil, or_false] at hm
    omega
  · simp only [if_neg c0]
    by_cases c1 : v = 1
    · simp only [if_pos c1]
      obtain ⟨x, q2, e2, hx, hq2⟩ := word_ok hq
      exact ⟨_, q2, fun k hk => by rw [e2 k hk]; rfl, w64_in _, hq2⟩
    · simp only [if_neg c1]
      by_cases c2 : v = 2
      · simp only [if_pos c2]
        obtain ⟨x, q2, e2, hx, hq2⟩ := word_ok hq
        obtain ⟨y, q3, e3, hy, hq3⟩ := below_ok hq2 (n := 60) (by decide) (by decide)
        refine ⟨_, q3, fun k hk => by rw [e2 k hk]; simp only [Option.bind_some]; rw [e3]; simp only [Option.bind_some]; rw [if_pos (by rw [Math.uwrap]; omega)], shr_in _ (w64_in _), hq3⟩
      · simp only [if_neg c2]
        obtain ⟨y, q3, e3, hy, hq3⟩ := below_ok hq (n := 41) (by decide) (by decide)
        rw [e3]
        exact ⟨_, q3, fun _ _ => rfl, w64_in _, hq3⟩

theorem once_ok {l : List Int} {p : Int} (h : St l p) {n : Int} (h1 : 1 < n) (h2 : n ≤ 65536) : ∃ b q, spec_l1Rd_once.f l p n = some (b, q) ∧ St l q := by
  obtain ⟨v, q, e, _, hq⟩ := below_ok h h1 h2
  unfold spec_l1Rd_once.f
  rw [e]
  exact ⟨_, q, rfl, hq⟩

theorem spec_NumAdd_is {a b : Int} (ha : -9223372036854775808 ≤ a ∧ a ≤ 9223372036854775807) (hb : -9223372036854775808 ≤ b ∧ b ≤ 9223372036854775807) :
    spec_NumAdd.f a b = some (Math.addV a b) := by
  unfold spec_NumAdd.f
  rw [if_pos ⟨ha, hb⟩]

theorem addV_in {a b : Int} (ha : -9223372036854775808 ≤ a ∧ a ≤ 9223372036854775807) (hb : -9223372036854775808 ≤ b ∧ b ≤ 9223372036854775807) : -9223372036854775808 ≤ (Math.addV a b).1 ∧ (Math.addV a b).1 ≤ 9223372036854775807 := by
  unfold Math.addV
  split
  · simp
  · split
    · simp
    · simp only; omega
theorem iv_ok {l : List Int} {p : Int} (h : St l p) : ∃ a b q, (∀ k, 10 ≤ k → spec_l1Rd_iv.f k l p = some (a, b, q)) ∧ (-9223372036854775808 ≤ a ∧ a ≤ 9223372036854775807) ∧ (-9223372036854775808 ≤ b ∧ b ≤ 9223372036854775807) ∧ St l q := by
  obtain ⟨a, q, e, ha, hq⟩ := num_ok h
  obtain ⟨c, q2, e2, hc, hq2⟩ := below_ok hq (n := 4) (by decide) (by decide)
  have key : ∀ t : Bool, ∃ b q, (∀ k, 10 ≤ k → spec_l1Rd_iv.j0 k a a t l q2 = some (a, b, q)) ∧ (-9223372036854775808 ≤ b ∧ b ≤ 9223372036854775807) ∧ St l q := by
    intro t
    cases t with
    | true =>
      obtain ⟨i, q3, e3, hi, hq3⟩ := below_ok hq2 (n := 30) (by decide) (by decide)
      by_cases g : (Math.addV a i).1 < a
      · refine ⟨a, q3, fun k hk => ?_, ha, hq3⟩
        obtain ⟨k, rfl⟩ : ∃ m, k = m + 1 := ⟨k - 1, by omega⟩
        simp only [spec_l1Rd_iv.j0, if_true]
        rw [e3]; simp only [Option.bind_some]; rw [spec_NumAdd_is ha (by omega)]; simp only [Option.bind_some]; rw [if_pos g]
      · refine ⟨(Math.addV a i).1, q3, fun k hk => ?_, addV_in ha (by omega), hq3⟩
        obtain ⟨k, rfl⟩ : ∃ m, k = m + 1 := ⟨k - 1, by omega⟩
        simp only [spec_l1Rd_iv.j0, if_true]
        rw [e3]; simp only [Option.bind_some]; rw [spec_NumAdd_is ha (by omega)]; simp only [Option.bind_some]; rw [if_neg g]
    | false =>
      refine ⟨a, q2, fun k hk => ?_, ha, hq2⟩
      obtain ⟨k, rfl⟩ : ∃ m, k = m + 1 := ⟨k - 1, by omega⟩
      simp only [spec_l1Rd_iv.j0]
      rw [if_neg (by decide), if_neg (Int.lt_irrefl a)]
  unfold spec_l1Rd_iv.f
  by_cases c0 : c = 0
  · obtain ⟨b, q3, e3, hb, hq3⟩ := num_ok hq2
    by_cases g : b < a
    · obtain ⟨o, q4, e4, hq4⟩ := once_ok hq3 (n := 12) (by decide) (by decide)
      cases o with
      | true =>
        refine ⟨a, b, q4, fun k hk => ?_, ha, hb, hq4⟩
        rw [e k (by omega)]; simp only [Option.bind_some]; rw [e2]; simp only [Option.bind_some]; rw [if_pos c0, e3 k (by omega)]; simp only [Option.bind_some]; rw [if_pos g, e4]; rfl
      | false =>
        refine ⟨b, a, q4, fun k hk => ?_, hb, ha, hq4⟩
        rw [e k (by omega)]; simp only [Option.bind_some]; rw [e2]; simp only [Option.bind_some]; rw [if_pos c0, e3 k (by omega)]; simp only [Option.bind_some]; rw [if_pos g, e4]; rfl
    · refine ⟨a, b, q3, fun k hk => ?_, ha, hb, hq3⟩
      rw [e k (by omega)]; simp only [Option.bind_some]; rw [e2]; simp only [Option.bind_some]; rw [if_pos c0, e3 k (by omega)]; simp only [Option.bind_some]; rw [if_neg g]
  · by_cases c1 : c = 1
    · obtain ⟨b, q3, e3, hb, hq3⟩ := key (c == 1)
      refine ⟨a, b, q3, fun k hk => ?_, ha, hb, hq3⟩
      rw [e k (by omega)]; simp only [Option.bind_some]; rw [e2]; simp only [Option.bind_some]; rw [if_neg c0, if_pos c1]; exact e3 k hk
    · obtain ⟨b, q3, e3, hb, hq3⟩ := key (c == 2)
      refine ⟨a, b, q3, fun k hk => ?_, ha, hb, hq3⟩
      rw [e k (by omega)]; simp only [Option.bind_some]; rw [e2]; simp only [Option.bind_some]; rw [if_neg c0, if_neg c1]; exact e3 k hk

theorem minF_spec : ∀ (xs : List Int) (x : Int), (Cor.minF x xs ∈ x :: xs) ∧ ∀ y ∈ x :: xs, Cor.minF x xs ≤ y
  | [], x => by simp [Cor.minF]
  | z :: zs, x => by
    obtain ⟨h1, h2⟩ := minF_spec zs (mn x z)
    have e : Cor.minF x (z :: zs) = Cor.minF (mn x z) zs := rfl
    rw [e]
    have hm : mn x z = x ∨ mn x z = z := by unfold mn; split <;> simp
    have hle : mn x z ≤ x ∧ mn x z ≤ z := by unfold mn; split <;> omega
    refine ⟨?_, ?_⟩
    · rcases List.mem_cons.mp h1 with h | h
      · rw [h]; rcases hm with h | h <;> rw [h] <;> simp
      · exact List.mem_cons_of_mem _ (List.mem_cons_of_mem _ h)
    · intro y hy
      have h0 := h2 (mn x z) (List.mem_cons_self ..)
      rcases List.mem_cons.mp hy with h | h
      · omega
      · rcases List.mem_cons.mp h with h | h
        · omega
        · exact h2 y (List.mem_cons_of_mem _ h)
theorem maxF_spec : ∀ (xs : List Int) (x : Int), (Cor.maxF x xs ∈ x :: xs) ∧ ∀ y ∈ x :: xs, y ≤ Cor.maxF x xs
  | [], x => by simp [Cor.maxF]
  | z :: zs, x => by
    obtain ⟨h1, h2⟩ := maxF_spec zs (mx x z)
    have e : Cor.maxF x (z :: zs) = Cor.maxF (mx x z) zs := rfl
    rw [e]
    have hm : mx x z = x ∨ mx x z = z := by unfold mx; split <;> simp
    have hle : x ≤ mx x z ∧ z ≤ mx x z := by unfold mx; split <;> omega
    refine ⟨?_, ?_⟩
    · rcases List.mem_cons.mp h1 with h | h
      · rw [h]; rcases hm with h | h <;> rw [h] <;> simp
      · exact List.mem_cons_of_mem _ (List.mem_cons_of_mem _ h)
    · intro y hy
      have h0 := h2 (mx x z) (List.mem_cons_self ..)
      rcases List.mem_cons.mp hy with h | h
      · omega
      · rcases List.mem_cons.mp h with h | h
        · omega
        · exact h2 y (List.mem_cons_of_mem _ h)
theorem low_iff {l0 l1 : List Int} {i j : Nat} : spec_l2Ends.low l0 l1 i j = true ↔ rd l1 i < rd l1 j ∨ (rd l1 i = rd l1 j ∧ rd l0 i < rd l0 j) := by simp [spec_l2Ends.low]
theorem high_iff {l0 l1 : List Int} {i j : Nat} : spec_l2Ends.high l0 l1 i j = true ↔ rd l1 j < rd l1 i ∨ (rd l1 i = rd l1 j ∧ rd l0 j < rd l0 i) := by simp [spec_l2Ends.high]
/-- What holds of the two places behind i rounds. -/
def Inv (l0 l1 : List Int) (i : Nat) (s : Nat × Nat × Int) : Prop :=
  (∀ j, j < i → ¬ (rd l1 j < rd l1 s.1 ∨ (rd l1 j = rd l1 s.1 ∧ rd l0 j < rd l0 s.1))) ∧ (∀ j, j < i → ¬ (rd l1 s.2.1 < rd l1 j ∨ (rd l1 j = rd l1 s.2.1 ∧ rd l0 s.2.1 < rd l0 j))) ∧
  ((s.2.2 = 4 ∧ ∃ j, j < i ∧ rd l1 j ≠ 0) ∨ (s.2.2 = 0 ∧ ∀ j, j < i → rd l1 j = 0))
theorem st_inv (l0 l1 : List Int) : ∀ i, Inv l0 l1 i (spec_l2Ends.st l0 l1 i)
  | 0 => ⟨fun j hj => absurd hj (by omega), fun j hj => absurd hj (by omega), .inr ⟨rfl, fun j hj => absurd hj (by omega)⟩⟩
  | i + 1 => by
    obtain ⟨h1, h2, h3⟩ := st_inv l0 l1 i
    generalize hs : spec_l2Ends.st l0 l1 i = s at h1 h2 h3
    have e : spec_l2Ends.st l0 l1 (i + 1) = (if spec_l2Ends.low l0 l1 i s.1 then i else s.1, if spec_l2Ends.high l0 l1 i s.2.1 then i else s.2.1, if rd l1 i = 0 then s.2.2 else 4) := by rw [spec_l2Ends.st, hs]
    rw [e]
    refine ⟨?_, ?_, ?_⟩
    · intro j hj
      show ¬ (rd l1 j < rd l1 ((if spec_l2Ends.low l0 l1 i s.1 then i else s.1 : Nat) : Int) ∨ _)
      by_cases c : spec_l2Ends.low l0 l1 i s.1 = true
      · have c' := low_iff.mp c
        simp only [c, if_true]
        rcases Nat.lt_succ_iff_lt_or_eq.mp hj with h | rfl
        · have := h1 j h; omega
        · omega
      · have c' := fun h => c (low_iff.mpr h)
        simp only [Bool.not_eq_true] at c
        simp only [c, Bool.false_eq_true, if_false]
        rcases Nat.lt_succ_iff_lt_or_eq.mp hj with h | rfl
        · exact h1 j h
        · exact c'
    · intro j hj
      show ¬ (rd l1 ((if spec_l2Ends.high l0 l1 i s.2.1 then i else s.2.1 : Nat) : Int) < rd l1 j ∨ _)
      by_cases c : spec_l2Ends.high l0 l1 i s.2.1 = true
      · have c' := high_iff.mp c
        simp only [c, if_true]
        rcases Nat.lt_succ_iff_lt_or_eq.mp hj with h | rfl
        · have := h2 j h; omega
        · omega
      · have c' := fun h => c (high_iff.mpr h)
        simp only [Bool.not_eq_true] at c
        simp only [c, Bool.false_eq_true, if_false]
        rcases Nat.lt_succ_iff_lt_or_eq.mp hj with h | rfl
        · exact h2 j h
        · exact c'
    · show ((if rd l1 i = 0 then s.2.2 else 4) = 4 ∧ _) ∨ ((if rd l1 i = 0 then s.2.2 else 4) = 0 ∧ _)
      by_cases c : rd l1 i = 0
      · rw [if_pos c]
        rcases h3 with ⟨h, j, hj, hne⟩ | ⟨h, ha⟩
        · exact .inl ⟨h, j, by omega, hne⟩
        · refine .inr ⟨h, fun j hj => ?_⟩
          rcases Nat.lt_succ_iff_lt_or_eq.mp hj with hh | rfl
          · exact ha j hh
          · exact c
      · rw [if_neg c]
        exact .inl ⟨rfl, i, by omega, c⟩
def lowE (s : List Int × Bool × Bool) : List Int := if s.2.1 then s.1 ++ [-9223372036854775808] else s.1
def highE (s : List Int × Bool × Bool) : List Int := if s.2.2 then s.1 ++ [9223372036854775807] else s.1
def alE (s : List Int × Bool × Bool) (al : Int) : Int := if s.2.1 || s.2.2 then Go.bits .or .i64 al 4 else al
theorem valC_is (s : List Int × Bool × Bool) (al : Int) : Cor.valC s al = (match lowE s, highE s with
  | x :: xs, y :: ys => (Cor.minF x xs, Cor.maxF y ys, true, alE s al)
  | _, _ => (0, 0, false, alE s al)) := rfl
theorem lowE_mem {s : List Int × Bool × Bool} {y : Int} : y ∈ lowE s ↔ y ∈ s.1 ∨ (s.2.1 = true ∧ y = -9223372036854775808) := by
  unfold lowE
  cases s.2.1 <;> simp
theorem highE_mem {s : List Int × Bool × Bool} {y : Int} : y ∈ highE s ↔ y ∈ s.1 ∨ (s.2.2 = true ∧ y = 9223372036854775807) := by
  unfold highE
  cases s.2.2 <;> simp
theorem ends_val (l0 l1 : List Int) (n : Nat) (hn : 0 < n) (s : List Int × Bool × Bool) (hbe : s.2.1 = true ↔ ∃ j : Nat, j < n ∧ rd l1 j < 0) (hab : s.2.2 = true ↔ ∃ j : Nat, j < n ∧ 0 < rd l1 j)
    (hL : ∀ x, x ∈ s.1 ↔ ∃ j : Nat, j < n ∧ rd l1 j = 0 ∧ rd l0 j = x) (hr : ∀ j : Nat, j < n → -9223372036854775808 ≤ rd l0 j ∧ rd l0 j ≤ 9223372036854775807) :
    spec_l2Ends.fin l0 l1 (spec_l2Ends.st l0 l1 n) = Cor.valC s 0 := by
  obtain ⟨i1, i2, i3⟩ := st_inv l0 l1 n
  obtain ⟨m1, m2⟩ := spec_l2Ends.st_lt l0 l1 n hn n (Nat.le_refl _)
  generalize spec_l2Ends.st l0 l1 n = t at i1 i2 i3 m1 m2
  obtain ⟨m, M, al⟩ := t
  simp only at i1 i2 i3 m1 m2
  have eal : alE s 0 = al := by
    unfold alE
    by_cases c : s.2.1 = true ∨ s.2.2 = true
    · have cc : (s.2.1 || s.2.2) = true := by simpa using c
      rw [if_pos cc]
      rcases i3 with ⟨h, _⟩ | ⟨_, h⟩
      · rw [h]; rfl
      · exfalso
        rcases c with c | c
        · obtain ⟨j, hj, h'⟩ := hbe.mp c; have := h j hj; omega
        · obtain ⟨j, hj, h'⟩ := hab.mp c; have := h j hj; omega
    · have cc : ¬ ((s.2.1 || s.2.2) = true) := by simpa using c
      rw [if_neg cc]
      rcases i3 with ⟨_, j, hj, hne⟩ | ⟨h, _⟩
      · exfalso
        rcases Int.lt_trichotomy (rd l1 j) 0 with h | h | h
        · exact c (.inl (hbe.mpr ⟨j, hj, h⟩))
        · exact hne h
        · exact c (.inr (hab.mpr ⟨j, hj, h⟩))
      · exact h.symm
  have lowk : (lowE s = [] → 0 < rd l1 m) ∧ (∀ x xs, lowE s = x :: xs → rd l1 m ≤ 0 ∧ (if rd l1 m < 0 then -9223372036854775808 else rd l0 m) = Cor.minF x xs) := by
    refine ⟨fun h => ?_, fun x xs h => ?_⟩
    · rcases Int.lt_trichotomy (rd l1 m) 0 with c | c | c
      · exact absurd (lowE_mem.mpr (.inr ⟨hbe.mpr ⟨m, m1, c⟩, rfl⟩)) (by rw [h]; simp)
      · exact absurd (lowE_mem.mpr (.inl ((hL _).mpr ⟨m, m1, c, rfl⟩))) (by rw [h]; simp)
      · exact c
    · obtain ⟨q1, q2⟩ := minF_spec xs x
      rw [← h] at q1 q2
      have hx : x ∈ lowE s := by rw [h]; simp
      have hle : rd l1 m ≤ 0 := by
        rcases lowE_mem.mp hx with c | ⟨c, _⟩
        · obtain ⟨j, hj, h0, _⟩ := (hL _).mp c; have := i1 j hj; omega
        · obtain ⟨j, hj, h0⟩ := hbe.mp c; have := i1 j hj; omega
      refine ⟨hle, ?_⟩
      by_cases c : rd l1 m < 0
      · rw [if_pos c]
        have g1 := q2 _ (lowE_mem.mpr (.inr ⟨hbe.mpr ⟨m, m1, c⟩, rfl⟩))
        rcases lowE_mem.mp q1 with g | ⟨_, g⟩
        · obtain ⟨j, hj, _, e⟩ := (hL _).mp g; have := hr j hj; omega
        · omega
      · rw [if_neg c]
        have g1 := q2 _ (lowE_mem.mpr (.inl ((hL _).mpr ⟨m, m1, by omega, rfl⟩)))
        rcases lowE_mem.mp q1 with g | ⟨g, _⟩
        · obtain ⟨j, hj, z, e⟩ := (hL _).mp g; have := i1 j hj; omega
        · obtain ⟨j, hj, h0⟩ := hbe.mp g; have := i1 j hj; omega
  have highk : (highE s = [] → rd l1 M < 0) ∧ (∀ x xs, highE s = x :: xs → 0 ≤ rd l1 M ∧ (if 0 < rd l1 M then 9223372036854775807 else rd l0 M) = Cor.maxF x xs) := by
    refine ⟨fun h => ?_, fun x xs h => ?_⟩
    · rcases Int.lt_trichotomy (rd l1 M) 0 with c | c | c
      · exact c
      · exact absurd (highE_mem.mpr (.inl ((hL _).mpr ⟨M, m2, c, rfl⟩))) (by rw [h]; simp)
      · exact absurd (highE_mem.mpr (.inr ⟨hab.mpr ⟨M, m2, c⟩, rfl⟩)) (by rw [h]; simp)
    · obtain ⟨q1, q2⟩ := maxF_spec xs x
      rw [← h] at q1 q2
      have hx : x ∈ highE s := by rw [h]; simp
      have hle : 0 ≤ rd l1 M := by
        rcases highE_mem.mp hx with c | ⟨c, _⟩
        · obtain ⟨j, hj, h0, _⟩ := (hL _).mp c; have := i2 j hj; omega
        · obtain ⟨j, hj, h0⟩ := hab.mp c; have := i2 j hj; omega
      refine ⟨hle, ?_⟩
      by_cases c : 0 < rd l1 M
      · rw [if_pos c]
        have g1 := q2 _ (highE_mem.mpr (.inr ⟨hab.mpr ⟨M, m2, c⟩, rfl⟩))
        rcases highE_mem.mp q1 with g | ⟨_, g⟩
        · obtain ⟨j, hj, _, e⟩ := (hL _).mp g; have := hr j hj; omega
        · omega
      · rw [if_neg c]
        have g1 := q2 _ (highE_mem.mpr (.inl ((hL _).mpr ⟨M, m2, by omega, rfl⟩)))
        rcases highE_mem.mp q1 with g | ⟨g, _⟩
        · obtain ⟨j, hj, z, e⟩ := (hL _).mp g; have := i2 j hj; omega
        · obtain ⟨j, hj, h0⟩ := hab.mp g; have := i2 j hj; omega
  rw [valC_is, eal]
  show (if 0 < rd l1 m ∨ rd l1 M < 0 then (0, 0, false, al) else (if rd l1 m < 0 then -9223372036854775808 else rd l0 m, if 0 < rd l1 M then 9223372036854775807 else rd l0 M, true, al)) = _
  cases hlow : lowE s with
  | nil => rw [if_pos (.inl (lowk.1 hlow))]
  | cons x xs =>
    obtain ⟨a1, a2⟩ := lowk.2 x xs hlow
    cases hhigh : highE s with
    | nil => rw [if_pos (.inr (highk.1 hhigh))]
    | cons y ys =>
      obtain ⟨b1, b2⟩ := highk.2 y ys hhigh
      rw [if_neg (by omega), a2, b2]
/-- The marks and the list behind some pairs. -/
theorem fold_spec : ∀ (ps : List (Int × Int)) (s : List Int × Bool × Bool), (((ps.foldl (fun s p => Cor.addC s p.1 p.2) s).2.1 = true ↔ s.2.1 = true ∨ ∃ p ∈ ps, p.2 < 0) ∧ ((ps.foldl (fun s p => Cor.addC s p.1 p.2) s).2.2 = true ↔ s.2.2 = true ∨ ∃ p ∈ ps, 0 < p.2)) ∧
    ∀ x, x ∈ (ps.foldl (fun s p => Cor.addC s p.1 p.2) s).1 ↔ x ∈ s.1 ∨ ∃ p ∈ ps, p.2 = 0 ∧ p.1 = x
  | [], s => by simp
  | p :: ps, s => by
    obtain ⟨⟨h1, h2⟩, h3⟩ := fold_spec ps (Cor.addC s p.1 p.2)
    rw [List.foldl_cons]
    rcases Int.lt_trichotomy p.2 0 with c | c | c
    · have e : Cor.addC s p.1 p.2 = (s.1, true, s.2.2) := if_pos c
      rw [e] at h1 h2 h3 ⊢
      refine ⟨⟨by rw [h1]; simp [c], by rw [h2]; simp [show ¬ 0 < p.2 by omega]⟩, fun x => by rw [h3]; simp [show ¬ p.2 = 0 by omega]⟩
    · have e : Cor.addC s p.1 p.2 = (s.1 ++ [p.1], s.2.1, s.2.2) := (if_neg (by omega)).trans (if_neg (by omega))
      rw [e] at h1 h2 h3 ⊢
      refine ⟨⟨by rw [h1]; simp [c], by rw [h2]; simp [c]⟩, fun x => by rw [h3]; simp [c, or_assoc, eq_comm]⟩
    · have e : Cor.addC s p.1 p.2 = (s.1, s.2.1, true) := (if_neg (by omega)).trans (if_pos c)
      rw [e] at h1 h2 h3 ⊢
      refine ⟨⟨by rw [h1]; simp [show ¬ p.2 < 0 by omega], by rw [h2]; simp [c]⟩, fun x => by rw [h3]; simp [show ¬ p.2 = 0 by omega]⟩
theorem ex_idx (ps : List (Int × Int)) (P : Int → Int → Prop) : (∃ j : Nat, j < ps.length ∧ P (rd (ps.map (·.1)) j) (rd (ps.map (·.2)) j)) ↔ ∃ p ∈ ps, P p.1 p.2 := by
  have key : ∀ (j : Nat) (h : j < ps.length), rd (ps.map (·.1)) j = ps[j].1 ∧ rd (ps.map (·.2)) j = ps[j].2 := by
    intro j h
    unfold rd
    simp [List.getD_eq_getElem?_getD, h]
  constructor
  · rintro ⟨j, hj, h⟩
    rw [(key j hj).1, (key j hj).2] at h
    exact ⟨ps[j], List.getElem_mem _, h⟩
  · rintro ⟨p, hp, h⟩
    obtain ⟨j, hj, rfl⟩ := List.mem_iff_getElem.mp hp
    exact ⟨j, hj, by rw [(key j hj).1, (key j hj).2]; exact h⟩
/-- The ends of pairs, in whatever order they are taken up. -/
theorem ends_pairs (ps qs : List (Int × Int)) (hne : ps ≠ []) (hle : ps.length ≤ 1000) (hpq : ∀ p, p ∈ ps ↔ p ∈ qs) (hr : ∀ p ∈ ps, -9223372036854775808 ≤ p.1 ∧ p.1 ≤ 9223372036854775807) :
    spec_l2Ends.f (ps.map (·.1)) (ps.map (·.2)) = some (Cor.valC (qs.foldl (fun s p => Cor.addC s p.1 p.2) ([], false, false)) 0) := by
  have hn : 0 < ps.length := List.length_pos_iff.mpr hne
  obtain ⟨⟨f1, f2⟩, f3⟩ := fold_spec qs ([], false, false)
  unfold spec_l2Ends.f
  rw [if_pos (by simpa using hle)]
  simp only [List.length_map]
  rw [if_neg (by omega), ends_val _ _ _ hn _ ?_ ?_ ?_ ?_]
  · rw [f1]
    have := ex_idx ps (fun _ o => o < 0)
    simp only [this, hpq, Bool.false_eq_true, false_or]
  · rw [f2]
    have := ex_idx ps (fun _ o => 0 < o)
    simp only [this, hpq, Bool.false_eq_true, false_or]
  · intro x
    rw [f3]
    have := ex_idx ps (fun n o => o = 0 ∧ n = x)
    simp only [this, hpq, List.not_mem_nil, false_or]
  · intro j hj
    have h := (ex_idx ps (fun n _ => ¬ (-9223372036854775808 ≤ n ∧ n ≤ 9223372036854775807)))
    by_cases c : -9223372036854775808 ≤ rd (ps.map (·.1)) j ∧ rd (ps.map (·.1)) j ≤ 9223372036854775807
    · exact c
    · obtain ⟨p, hp, hh⟩ := h.mp ⟨j, hj, c⟩
      exact absurd (hr p hp) hh

theorem box_round (k : Nat) (op : Int) (F : Int → Int → Int × Int) (x2 : List S25) (x7 x8 : List Int) (x9 a b c d : Int) (h7 : x7.length ≤ 100) (h8 : x8.length ≤ 100)
    (h0 : spec_l2Corner.f op a c = some (F a c)) (h1 : spec_l2Corner.f op b c = some (F b c)) (h2 : spec_l2Corner.f op a d = some (F a d)) (h3 : spec_l2Corner.f op b d = some (F b d)) :
    spec_l2Box.l1 (k + 5) op x2 x7 x8 x9 0 a b c d = spec_l2Box.l0 k op x2 (x7 ++ [(F a c).1, (F b c).1, (F a d).1, (F b d).1]) (x8 ++ [(F a c).2, (F b c).2, (F a d).2, (F b d).2]) (wrap64 (x9 + 1)) a b := by
  have st : ∀ (k : Nat) (i x y : Int) (z7 z8 : List Int), i < 4 → 0 ≤ Int.tmod i 2 → Int.tmod i 2 < 2 → 0 ≤ wrap64 (Int.tdiv i 2) → wrap64 (Int.tdiv i 2) < 2 → rd [a, b] (Int.tmod i 2) = x → rd [c, d] (wrap64 (Int.tdiv i 2)) = y → spec_l2Corner.f op x y = some (F x y) → z7.length ≤ 200 → z8.length ≤ 200 →
      spec_l2Box.l1 (k + 1) op x2 z7 z8 x9 i a b c d = spec_l2Box.l1 k op x2 (z7 ++ [(F x y).1]) (z8 ++ [(F x y).2]) x9 (wrap64 (i + 1)) a b c d := by
    intro k i x y z7 z8 g0 g1 g2 g3 g4 g5 g6 g7 g8 g9
    rw [spec_l2Box.l1]
    simp only [Option.bind_some, List.length_cons, List.length_nil]
    rw [if_pos g0, if_pos g1, if_pos (by omega), if_pos g3, if_pos (by omega), g5, g6, g7]
    simp only [Option.bind_some]
    rw [if_pos (by omega), if_pos (by omega)]
  rw [st (k + 4) 0 a c x7 x8 (by decide +kernel) (by decide +kernel) (by decide +kernel) (by decide +kernel) (by decide +kernel) rfl (by rw [show wrap64 (Int.tdiv 0 2) = 0 from by decide +kernel]; rfl) h0 (by omega) (by omega)]
  rw [show wrap64 (0 + 1) = 1 from by decide +kernel]
  rw [st (k + 3) 1 b c _ _ (by decide +kernel) (by decide +kernel) (by decide +kernel) (by decide +kernel) (by decide +kernel) rfl (by rw [show wrap64 (Int.tdiv 1 2) = 0 from by decide +kernel]; rfl) h1 (by simp; omega) (by simp; omega)]
  rw [show wrap64 (1 + 1) = 2 from by decide +kernel]
  rw [st (k + 2) 2 a d _ _ (by decide +kernel) (by decide +kernel) (by decide +kernel) (by decide +kernel) (by decide +kernel) rfl (by rw [show wrap64 (Int.tdiv 2 2) = 1 from by decide +kernel]; rfl) h2 (by simp; omega) (by simp; omega)]
  rw [show wrap64 (2 + 1) = 3 from by decide +kernel]
  rw [st (k + 1) 3 b d _ _ (by decide +kernel) (by decide +kernel) (by decide +kernel) (by decide +kernel) (by decide +kernel) rfl (by rw [show wrap64 (Int.tdiv 3 2) = 1 from by decide +kernel]; rfl) h3 (by simp; omega) (by simp; omega)]
  rw [show wrap64 (3 + 1) = 4 from by decide +kernel]
  rw [spec_l2Box.l1, if_neg (by decide)]
  simp only [List.append_assoc, List.singleton_append, List.cons_append, List.nil_append]
/-- What an operation gives of the corners of two right intervals, by the reference. -/
theorem op_is (k : Nat) (hk : 8 ≤ k) (op : Int) (F : Int → Int → Int × Int) (a b c d : Int)
    (h0 : spec_l2Corner.f op a c = some (F a c)) (h1 : spec_l2Corner.f op b c = some (F b c)) (h2 : spec_l2Corner.f op a d = some (F a d)) (h3 : spec_l2Corner.f op b d = some (F b d))
    (hr : ∀ x y, -9223372036854775808 ≤ (F x y).1 ∧ (F x y).1 ≤ 9223372036854775807) : spec_l2Op.f k op a b c d = some (ByCor.cornV F a b c d) := by
  obtain ⟨k, rfl⟩ : ∃ m, k = m + 8 := ⟨k - 8, by omega⟩
  unfold spec_l2Op.f ByCor.cornV
  simp only [spec_IvOk.f, Option.bind_some, decide_eq_true_eq]
  by_cases g1 : a ≤ b
  · by_cases g2 : c ≤ d
    · rw [if_pos g1, if_pos g2, if_pos ⟨g1, g2⟩]
      have e := ends_pairs [F a c, F b c, F a d, F b d] [F a c, F a d, F b c, F b d] (by simp) (by simp) (by intro p; constructor <;> (intro h; simp only [List.mem_cons, List.not_mem_nil, or_false] at h ⊢; rcases h with h | h | h | h <;> simp [h]))
        (by intro p hp; simp only [List.mem_cons, List.not_mem_nil, or_false] at hp; rcases hp with rfl | rfl | rfl | rfl <;> exact hr _ _)
      have b0 : spec_l2Box.f (k + 8) op a b [(⟨c, d⟩ : S25)] = some (Cor.valC (Cor.allC F ([], false, false) a b c d) 0) := by
        unfold spec_l2Box.f
        rw [spec_l2Box.l0]
        rw [if_pos (by simp), if_pos (by decide)]
        show spec_l2Box.l1 (k + 2 + 5) op _ [] [] 0 0 a b c d = _
        rw [box_round (k + 2) op F _ [] [] 0 a b c d (by simp) (by simp) h0 h1 h2 h3]
        rw [spec_l2Box.l0, show wrap64 (0 + 1) = 1 from by decide +kernel, if_neg (by simp)]
        simp only [List.nil_append]
        simp only [List.map_cons, List.map_nil] at e
        rw [e]
        rfl
      rw [b0]
      rfl
    · rw [if_pos g1, if_neg g2, if_neg (fun h => g2 h.2)]
  · rw [if_neg g1, if_neg (fun h => g1 h.1)]

theorem subV_in (x y : Int) : -9223372036854775808 ≤ (Math.subV x y).1 ∧ (Math.subV x y).1 ≤ 9223372036854775807 := by
  unfold Math.subV; split
  · simp
  · split
    · simp
    · simp; omega
theorem sub_is (k : Nat) (hk : 8 ≤ k) (a b c d : Int) (ha : -9223372036854775808 ≤ a ∧ a ≤ 9223372036854775807) (hb : -9223372036854775808 ≤ b ∧ b ≤ 9223372036854775807) (hc : -9223372036854775808 ≤ c ∧ c ≤ 9223372036854775807) (hd : -9223372036854775808 ≤ d ∧ d ≤ 9223372036854775807) :
    spec_IvSub.f k a b c d = some (ByCor.cornV Math.subV a b c d) ∧ impl_IvSub.f a b c d = some (ByCor.cornV Math.subV a b c d) := by
  have co : ∀ x y : Int, (-9223372036854775808 ≤ x ∧ x ≤ 9223372036854775807) → (-9223372036854775808 ≤ y ∧ y ≤ 9223372036854775807) → spec_l2Corner.f 45 x y = some (Math.subV x y) := by
    intro x y hx hy
    unfold spec_l2Corner.f
    rw [if_neg (by decide), if_pos rfl, show spec_NumSub.f x y = some (Math.subV x y) from if_pos ⟨hx, hy⟩]
    rfl
  refine ⟨?_, if_pos ⟨ha, hb, hc, hd⟩⟩
  unfold spec_IvSub.f
  rw [op_is k hk 45 Math.subV a b c d (co _ _ ha hc) (co _ _ hb hc) (co _ _ ha hd) (co _ _ hb hd) subV_in]
  rfl
theorem neg_is (k : Nat) (hk : 8 ≤ k) (a b : Int) (ha : -9223372036854775808 ≤ a ∧ a ≤ 9223372036854775807) (hb : -9223372036854775808 ≤ b ∧ b ≤ 9223372036854775807) :
    spec_IvNeg.f k a b = some (ByCor.cornV Math.subV 0 0 a b) ∧ impl_IvNeg.f a b = some (ByCor.cornV Math.subV 0 0 a b) := by
  obtain ⟨e1, e2⟩ := sub_is k hk 0 0 a b (by omega) (by omega) ha hb
  constructor
  · unfold spec_IvNeg.f; rw [e1]; rfl
  · unfold impl_IvNeg.f; rw [e2]; rfl
theorem neg_val (a b : Int) (h : a ≤ b) (ha : -9223372036854775808 < a) (hb : b ≤ 9223372036854775807) : ByCor.cornV Math.subV 0 0 a b = (-b, -a, true, 0) := by
  have f : ∀ x : Int, -9223372036854775808 < x → x ≤ 9223372036854775807 → Math.subV 0 x = (-x, 0) := by
    intro x h1 h2
    unfold Math.subV
    rw [if_neg (by omega), if_neg (by omega)]
    simp
  have ad : ∀ (L : List Int) (x : Int), Cor.addC (L, false, false) x 0 = (L ++ [x], false, false) := fun L x => rfl
  unfold ByCor.cornV
  rw [if_pos ⟨by omega, h⟩]
  unfold Cor.allC
  rw [f a ha (by omega), f b (by omega) hb]
  show Cor.valC ([-a, -b, -a, -b], false, false) 0 = _
  show (Cor.minF (-a) [-b, -a, -b], Cor.maxF (-a) [-b, -a, -b], true, (0 : Int)) = _
  simp only [Cor.minF, Cor.maxF]
  have m1 : mn (mn (mn (-a) (-b)) (-a)) (-b) = -b := by unfold mn; repeat' split <;> omega
  have m2 : mx (mx (mx (-a) (-b)) (-a)) (-b) = -a := by unfold mx; repeat' split <;> omega
  rw [m1, m2]

theorem FnIvNeg (l0 : List Int) (b0 : ∀ x ∈ l0, 0 ≤ x ∧ x ≤ 255) : ∃ k, laws_FnIvNeg.f k l0 = some true := by
  refine ⟨12, ?_⟩
  unfold laws_FnIvNeg.f laws_big.f
  simp only [Option.bind_some]
  by_cases hn : (l0.length : Int) > 1048576
  · rw [if_pos (by simpa using hn)]
  · rw [if_neg (by simpa using hn)]
    have h0 : St l0 0 := ⟨b0, by omega, by omega, by omega⟩
    obtain ⟨a, b, q, e, ha, hb, _⟩ := iv_ok h0
    have ed : spec_DrawIvNeg.f 12 l0 = some (a, b) := by
      unfold spec_DrawIvNeg.f spec_DrawIvOk.f spec_l1Open.f
      simp only [Option.bind_some]
      rw [e 12 (by omega)]
      rfl
    obtain ⟨e1, e2⟩ := neg_is 12 (by omega) a b ha hb
    rw [ed]
    simp only [Option.bind_some, e1, e2, beq_self_eq_true, Bool.not_true, Bool.or_self]
    rw [if_neg (by decide)]
    have done : laws_FnIvNeg.j0 12 true a b (ByCor.cornV Math.subV 0 0 a b).1 (ByCor.cornV Math.subV 0 0 a b).2.1 (ByCor.cornV Math.subV 0 0 a b).2.2.1 (ByCor.cornV Math.subV 0 0 a b).2.2.2 = some true := by
      simp only [laws_FnIvNeg.j0]
      obtain ⟨e1', _⟩ := neg_is 11 (by omega) a b ha hb
      simp [e1']
    simp only [spec_IvOk.f, Option.bind_some, decide_eq_true_eq]
    by_cases g : a ≤ b
    · rw [if_pos g]
      by_cases m : a = -9223372036854775808
      · rw [beq_iff_eq.mpr m]; exact done
      · rw [beq_eq_false_iff_ne.mpr m]
        have v1 := neg_val a b g (by omega) hb.2
        have v2 := neg_val (-b) (-a) (by omega) (by omega) (by omega)
        obtain ⟨_, e3⟩ := neg_is 11 (by omega) (-b) (-a) (by omega) (by omega)
        rw [v1]
        simp only [laws_FnIvNeg.j0]
        rw [v2] at e3
        simp [e3]
    · rw [if_neg g]; exact done

end Go.Proofs.Ytdjhalelgknnkaa.PureFnIvNeg
