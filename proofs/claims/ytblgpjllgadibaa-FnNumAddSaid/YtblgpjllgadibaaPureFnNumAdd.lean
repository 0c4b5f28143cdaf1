/- A sum that fits, less what was added, is what it was added to; sums and products are the same either way round, for every code: the law's function returns true. Conditions: none. -/
import Derived.Test.YtblgpjllgadibaaQx2
import Derived.Test.YtblgpjllgadibaaQx3
import Derived.Test.YtblgpjllgadibaaQx4
import Derived.Test.YtblgpjllgadibaaQx5
import Derived.Test.YtblgpjllgadibaaQx6
import Derived.Test.YtblgpjllgadibaaQx7
import Derived.Test.YtblgpjllgadibaaQx8
import Derived.Test.YtblgpjllgadibaaQx11
import Derived.Test.YtblgpjllgadibaaMath
namespace Go.Proofs.Ytblgpjllgadibaa.PureFnNumAdd
open Go.RowKit Go.Proofs.Ytblgpjllgadibaa Go.Proofs.Ytblgpjllgadibaa.Q Go.Proofs.YtblgpjllgadibaaW.PrintWords Go.Proofs.YtblgpjllgadibaaW.PrintLast
set_option linter.unusedVariables false
set_option linter.unusedSimpArgs false

/-- A code of bytes, and a place in it. -/
def St (l : List Int) (p : Int) : Prop := (∀ x ∈ l, 0 ≤ x ∧ x ≤ 255) ∧ l.length ≤ 1048576 ∧ 0 ≤ p ∧ p ≤ l.length
theorem rd_mem {xs : List Int} {i : Int} (h0 : 0 ≤ i) (h1 : i < xs.length) : rd xs i ∈ xs := by
  unfold rd
  rw [List.getD_eq_getElem?_getD, List.getElem?_eq_getElem (by omega), Option.getD_some]
  exact List.getElem_mem _
theorem w64_in (x : Int) : -9223372036854775808 ≤ wrap64 x ∧ wrap64 x ≤ 9223372036854775807 := by
  unfold wrap64; omega
theorem next_ok {l : List Int} {p : Int} (h : St l p) : ∃ v q, spec_l1Rd_next.f l p = some (v, q) ∧ (0 ≤ v ∧ v ≤ 255) ∧ St l q := by
  obtain ⟨hb, hn, h0, h1⟩ := h
  unfold spec_l1Rd_next.f
  by_cases c : p ≥ (l.length : Int)
  · rw [if_pos c]; exact ⟨0, p, rfl, by omega, hb, hn, h0, h1⟩
  · have e1 : wrap64 (p + 1) = p + 1 := Math.w64_id (by omega) (by omega)
    have e2 : wrap64 (p + 1 - 1) = p := by rw [Math.w64_id (by omega) (by omega)]; omega
    have hv := hb _ (rd_mem h0 (show p < (l.length : Int) by omega))
    rw [if_neg c, e1, e2, if_pos h0, if_pos (by omega), Math.w64_id (by omega) (by omega)]
    exact ⟨rd l p, p + 1, rfl, hv, hb, hn, by omega, by omega⟩
theorem below_ok {l : List Int} {p : Int} (h : St l p) {n : Int} (h1 : 1 < n) (h2 : n ≤ 65536) : ∃ v q, spec_l1Rd_below.f l p n = some (v, q) ∧ (0 ≤ v ∧ v < n) ∧ St l q := by
  unfold spec_l1Rd_below.f
  rw [if_neg (by omega)]
  by_cases c : n ≤ 256
  · obtain ⟨v, q, e, hv, hq⟩ := next_ok h
    rw [if_pos c, e]
    simp only [Option.bind_some]
    rw [if_neg (by omega), Int.tmod_eq_emod_of_nonneg hv.1]
    exact ⟨_, q, rfl, ⟨Int.emod_nonneg _ (by omega), Int.emod_lt_of_pos _ (by omega)⟩, hq⟩
  · obtain ⟨v, q, e, hv, hq⟩ := next_ok h
    obtain ⟨v2, q2, e2, hv2, hq2⟩ := next_ok hq
    rw [if_neg c, e]
    simp only [Option.bind_some]
    rw [e2]
    simp only [Option.bind_some]
    rw [if_neg (by omega), Math.w64_id (x := v * 256) (by omega) (by omega), Math.w64_id (by omega) (by omega), Int.tmod_eq_emod_of_nonneg (by omega)]
    exact ⟨_, q2, rfl, ⟨Int.emod_nonneg _ (by omega), Int.emod_lt_of_pos _ (by omega)⟩, hq2⟩

theorem or_u64 (x y : Int) : 0 ≤ Go.bits .or .u64 x y ∧ Go.bits .or .u64 x y < 18446744073709551616 := by
  have := bounds_u64 (wf_bits .or .u64 x y)
  omega
theorem word_loop {l : List Int} (d : Nat) : ∀ (k : Nat) (x i p : Int), St l p → (0 ≤ x ∧ x < 18446744073709551616) → i + d = 8 → 0 ≤ i → d < k →
    ∃ v q, spec_l1Rd_word.l0 k x i l p = some (v, q) ∧ (0 ≤ v ∧ v < 18446744073709551616) ∧ St l q ∧ ∀ k', d < k' → spec_l1Rd_word.l0 k' x i l p = some (v, q) := by
  induction d with
  | zero =>
    intro k x i p h hx hi h0 hk
    have key : ∀ k', 0 < k' → spec_l1Rd_word.l0 k' x i l p = some (x, p) := by
      intro k' hk'
      obtain ⟨k', rfl⟩ : ∃ m, k' = m + 1 := ⟨k' - 1, by omega⟩
      simp only [spec_l1Rd_word.l0]; rw [if_neg (by omega)]
    exact ⟨x, p, key k hk, hx, h, key⟩
  | succ d ih =>
    intro k x i p h hx hi h0 hk
    obtain ⟨v, q, e, hv, hq⟩ := next_ok h
    obtain ⟨r, q2, _, hr, hq2, all⟩ := ih (d + 1) (Go.bits .or .u64 (IntKind.u64.wrap (x * 256)) (IntKind.u64.wrap v)) (i + 1) q hq (or_u64 _ _) (by omega) (by omega) (by omega)
    have key : ∀ k', d + 1 < k' → spec_l1Rd_word.l0 k' x i l p = some (r, q2) := by
      intro k' hk'
      obtain ⟨k', rfl⟩ : ∃ m, k' = m + 1 := ⟨k' - 1, by omega⟩
      simp only [spec_l1Rd_word.l0]
      rw [if_pos (by omega), e]
      simp only [Option.bind_some]
      rw [Math.w64_id (by omega) (by omega)]
      exact all k' (by omega)
    exact ⟨r, q2, key k hk, hr, hq2, key⟩
theorem word_ok {l : List Int} {p : Int} (h : St l p) : ∃ v q, (∀ k, 9 ≤ k → spec_l1Rd_word.f k l p = some (v, q)) ∧ (0 ≤ v ∧ v < 18446744073709551616) ∧ St l q := by
  obtain ⟨v, q, _, hv, hq, all⟩ := word_loop 8 9 0 0 p h (by omega) (by omega) (by omega) (by omega)
  exact ⟨v, q, fun k hk => all k (by omega), hv, hq⟩

theorem shr_in {x : Int} (y : Int) (h : -9223372036854775808 ≤ x ∧ x ≤ 9223372036854775807) : -9223372036854775808 ≤ shr .i64 x y ∧ shr .i64 x y ≤ 9223372036854775807 := by
  unfold shr
  have hp : (0 : Int) < 2 ^ min y.toNat IntKind.i64.bits := Int.pow_pos (by decide)
  generalize (2 : Int) ^ min y.toNat IntKind.i64.bits = z at hp
  constructor
  · rw [Int.le_ediv_iff_mul_le hp]
    by_cases h0 : (0 : Int) ≤ x
    · have := Int.mul_nonneg (show (0 : Int) ≤ 9223372036854775808 by decide) (Int.le_of_lt hp)
      have e : -9223372036854775808 * z = -(9223372036854775808 * z) := Int.neg_mul _ _
      omega
    · have : (9223372036854775808 : Int) * 1 ≤ 9223372036854775808 * z := Int.mul_le_mul_of_nonneg_left (by omega) (by omega)
      have e : -9223372036854775808 * z = -(9223372036854775808 * z) := Int.neg_mul _ _
      omega
  · by_cases h0 : (0 : Int) ≤ x
    · have := Int.ediv_le_self z h0
      omega
    · have : x / z < 0 := Int.ediv_lt_of_lt_mul hp (by omega)
      omega
theorem num_ok {l : List Int} {p : Int} (h : St l p) : ∃ v q, (∀ k, 9 ≤ k → spec_l1Rd_num.f k l p = some (v, q)) ∧ (-9223372036854775808 ≤ v ∧ v ≤ 9223372036854775807) ∧ St l q := by
  unfold spec_l1Rd_num.f
  obtain ⟨v, q, e, hv, hq⟩ := below_ok h (n := 6) (by decide) (by decide)
  rw [e]
  simp only [Option.bind_some]
  by_cases c0 : v = 0
  · simp only [if_pos c0]
    obtain ⟨i, q2, e2, hi, hq2⟩ := below_ok hq (n := 10) (by decide) (by decide)
    rw [e2]
    simp only [Option.bind_some]
    rw [if_pos hi.1, if_pos (by simpa using hi.2)]
    refine ⟨_, q2, fun _ _ => rfl, ?_, hq2⟩
    have hm := rd_mem (xs := [(-9223372036854775808), (-9223372036854775807), 9223372036854775807, 9223372036854775806, (-1), 0, 1, 4294967296, (-4294967296), 3037000500]) hi.1 (by simpa using hi.2)
    generalize rd _ i = z at hm
    simp only [List.mem_cons, List.not_mem_nil, or_false] at hm
    omega
  · simp only [if_neg c0]
    by_cases c1 : v = 1
    · simp only [if_pos c1]
      obtain ⟨x, q2, e2, hx, hq2⟩ := word_ok hq
      exact ⟨_, q2, fun k hk => by rw [e2 k hk]; rfl, w64_in _, hq2⟩
    · simp only [if_neg c1]
      by_cases c2 : v = 2
      · simp only [if_pos c2]
        obtain ⟨x, q2, e2, hx, hq2⟩ := word_ok hq
        obtain ⟨y, q3, e3, hy, hq3⟩ := below_ok hq2 (n := 60) (by decide) (by decide)
        refine ⟨_, q3, fun k hk => by rw [e2 k hk]; simp only [Option.bind_some]; rw [e3]; simp only [Option.bind_some]; rw [if_pos (by rw [Math.uwrap]; omega)], shr_in _ (w64_in _), hq3⟩
      · simp only [if_neg c2]
        obtain ⟨y, q3, e3, hy, hq3⟩ := below_ok hq (n := 41) (by decide) (by decide)
        rw [e3]
        exact ⟨_, q3, fun _ _ => rfl, w64_in _, hq3⟩

theorem once_ok {l : List Int} {p : Int} (h : St l p) {n : Int} (h1 : 1 < n) (h2 : n ≤ 65536) : ∃ b q, spec_l1Rd_once.f l p n = some (b, q) ∧ St l q := by
  obtain ⟨v, q, e, _, hq⟩ := below_ok h h1 h2
  unfold spec_l1Rd_once.f
  rw [e]
  exact ⟨_, q, rfl, hq⟩

theorem drawNumAdd_ok {l : List Int} (h : ∀ x ∈ l, 0 ≤ x ∧ x ≤ 255) (hn : l.length ≤ 1048576) : ∃ a b, (∀ k, 9 ≤ k → spec_DrawNumAdd.f k l = some (a, b)) ∧ (-9223372036854775808 ≤ a ∧ a ≤ 9223372036854775807) ∧ (-9223372036854775808 ≤ b ∧ b ≤ 9223372036854775807) := by
  have h0 : St l 0 := ⟨h, hn, by omega, by omega⟩
  unfold spec_DrawNumAdd.f spec_l1Open.f
  simp only [Option.bind_some]
  obtain ⟨a, q, e, ha, hq⟩ := num_ok h0
  obtain ⟨b, q2, e2, hq2⟩ := once_ok hq (n := 4) (by decide) (by decide)
  cases b with
  | true =>
    obtain ⟨i, q3, e3, hi, hq3⟩ := below_ok hq2 (n := 4) (by decide) (by decide)
    refine ⟨a, rd [wrap64 (9223372036854775807 - a), wrap64 ((-9223372036854775808) - a), wrap64 (-a), wrap64 ((wrap64 (9223372036854775807 - a)) + 1)] i, fun k hk => ?_, ha, ?_⟩
    · rw [e k hk]; simp only [Option.bind_some]; rw [e2]; simp only [Option.bind_some, if_true]; rw [e3]; simp only [Option.bind_some]
      rw [if_pos hi.1, if_pos (by simpa using hi.2)]
    · have hm := rd_mem (xs := [wrap64 (9223372036854775807 - a), wrap64 ((-9223372036854775808) - a), wrap64 (-a), wrap64 ((wrap64 (9223372036854775807 - a)) + 1)]) hi.1 (by simpa using hi.2)
      generalize rd _ i = z at hm
      simp only [List.mem_cons, List.not_mem_nil, or_false] at hm
      rcases hm with rfl | rfl | rfl | rfl <;> exact w64_in _
  | false =>
    obtain ⟨b, q3, e3, hb, hq3⟩ := num_ok hq2
    refine ⟨a, b, fun k hk => ?_, ha, hb⟩
    rw [e k hk]; simp only [Option.bind_some]; rw [e2]; simp only [Option.bind_some]; rw [e3 k hk]; rfl

theorem drawNumMul_ok {l : List Int} (h : ∀ x ∈ l, 0 ≤ x ∧ x ≤ 255) (hn : l.length ≤ 1048576) : ∃ a b, (∀ k, 10 ≤ k → spec_DrawNumMul.f k l = some (a, b)) ∧ (-9223372036854775808 ≤ a ∧ a ≤ 9223372036854775807) ∧ (-9223372036854775808 ≤ b ∧ b ≤ 9223372036854775807) := by
  have h0 : St l 0 := ⟨h, hn, by omega, by omega⟩
  obtain ⟨a, q, e, ha, hq⟩ := num_ok h0
  obtain ⟨b, q2, e2, hq2⟩ := once_ok hq (n := 3) (by decide) (by decide)
  have key : ∀ c : Bool, (c = true → a ≠ 0) → ∃ b, (∀ k, 10 ≤ k → spec_DrawNumMul.j0 k a c l q2 = some (a, b)) ∧ (-9223372036854775808 ≤ b ∧ b ≤ 9223372036854775807) := by
    intro c hc
    cases c with
    | true =>
      obtain ⟨i, q3, e3, hi, hq3⟩ := below_ok hq2 (n := 3) (by decide) (by decide)
      refine ⟨wrap64 (wrap64 (wrap64 ((9223372036854775807 : Int) / a) + i) - 1), fun k hk => ?_, w64_in _⟩
      obtain ⟨k, rfl⟩ : ∃ m, k = m + 1 := ⟨k - 1, by omega⟩
      simp only [spec_DrawNumMul.j0, if_true]
      rw [if_neg (hc rfl), e3]
      rfl
    | false =>
      obtain ⟨b, q3, e3, hb, hq3⟩ := num_ok hq2
      refine ⟨b, fun k hk => ?_, hb⟩
      obtain ⟨k, rfl⟩ : ∃ m, k = m + 1 := ⟨k - 1, by omega⟩
      simp only [spec_DrawNumMul.j0]
      rw [e3 k (by omega)]
      rfl
  unfold spec_DrawNumMul.f spec_l1Open.f
  simp only [Option.bind_some]
  cases b with
  | true =>
    obtain ⟨b, e3, hb⟩ := key (a != 0) (by simp)
    refine ⟨a, b, fun k hk => ?_, ha, hb⟩
    rw [e k (by omega)]; simp only [Option.bind_some]; rw [e2]; simp only [Option.bind_some, if_true]; exact e3 k hk
  | false =>
    obtain ⟨b, e3, hb⟩ := key false (by simp)
    refine ⟨a, b, fun k hk => ?_, ha, hb⟩
    rw [e k (by omega)]; simp only [Option.bind_some]; rw [e2]; simp only [Option.bind_some]; exact e3 k hk

theorem impl_NumAdd_is {a b : Int} (ha : -9223372036854775808 ≤ a ∧ a ≤ 9223372036854775807) (hb : -9223372036854775808 ≤ b ∧ b ≤ 9223372036854775807) :
    impl_NumAdd.f a b = some (Math.addV a b) := by
  unfold impl_NumAdd.f
  rw [if_pos ⟨ha, hb⟩]

theorem spec_NumAdd_is {a b : Int} (ha : -9223372036854775808 ≤ a ∧ a ≤ 9223372036854775807) (hb : -9223372036854775808 ≤ b ∧ b ≤ 9223372036854775807) :
    spec_NumAdd.f a b = some (Math.addV a b) := by
  unfold spec_NumAdd.f
  rw [if_pos ⟨ha, hb⟩]

theorem impl_NumMul_is {a b : Int} (ha : -9223372036854775808 ≤ a ∧ a ≤ 9223372036854775807) (hb : -9223372036854775808 ≤ b ∧ b ≤ 9223372036854775807) :
    impl_NumMul.f a b = some (Math.mulV a b) := by
  unfold impl_NumMul.f
  rw [if_pos ⟨ha, hb⟩]

theorem spec_NumMul_is {a b : Int} (ha : -9223372036854775808 ≤ a ∧ a ≤ 9223372036854775807) (hb : -9223372036854775808 ≤ b ∧ b ≤ 9223372036854775807) :
    spec_NumMul.f a b = some (Math.mulV a b) := by
  unfold spec_NumMul.f
  rw [if_pos ⟨ha, hb⟩]

theorem impl_NumSub_is {a b : Int} (ha : -9223372036854775808 ≤ a ∧ a ≤ 9223372036854775807) (hb : -9223372036854775808 ≤ b ∧ b ≤ 9223372036854775807) :
    impl_NumSub.f a b = some (Math.subV a b) := by
  unfold impl_NumSub.f
  rw [if_pos ⟨ha, hb⟩]

theorem FnNumAdd (l0 : List Int) (b0 : ∀ x ∈ l0, 0 ≤ x ∧ x ≤ 255) : ∃ k, laws_FnNumAdd.f k l0 = some true := by
  unfold laws_FnNumAdd.f laws_big.f
  simp only [Option.bind_some]
  by_cases hn : (l0.length : Int) > 1048576
  · exact ⟨0, by rw [if_pos (by simpa using hn)]⟩
  · obtain ⟨a, b, e, ha, hb⟩ := drawNumAdd_ok b0 (by omega)
    obtain ⟨x, y, e2, hx, hy⟩ := drawNumMul_ok b0 (by omega)
    refine ⟨10 + 1, ?_⟩
    have c1 : Math.addV b a = Math.addV a b := by unfold Math.addV; rw [Int.add_comm b a]
    have c2 : Math.mulV y x = Math.mulV x y := by unfold Math.mulV; rw [Int.mul_comm y x]
    rw [if_neg (by simpa using hn), e (10 + 1) (by omega)]
    simp only [Option.bind_some]
    rw [impl_NumAdd_is ha hb, spec_NumAdd_is ha hb, impl_NumAdd_is hb ha, c1]
    simp only [Option.bind_some]
    rw [e2 (10 + 1) (by omega)]
    simp only [Option.bind_some]
    rw [impl_NumMul_is hx hy, impl_NumMul_is hy hx, spec_NumMul_is hx hy, c2]
    simp only [Option.bind_some, if_true, bne_self_eq_false]
    simp only [laws_FnNumAdd.j0]
    rw [if_neg (by decide)]
    unfold Math.addV
    by_cases h1 : 9223372036854775807 < a + b
    · simp only [if_pos h1]
      rw [if_neg (by decide), if_pos trivial]
      have : a > 0 := by omega
      simp [this]
    · simp only [if_neg h1]
      by_cases h2 : a + b < -9223372036854775808
      · simp only [if_pos h2]
        rw [if_neg (by decide), if_pos trivial]
        have : ¬ a > 0 := by omega
        simp [this]
      · simp only [if_neg h2]
        rw [if_pos trivial, impl_NumSub_is (by omega) hb]
        unfold Math.subV
        rw [if_neg (by omega), if_neg (by omega)]
        simp only [Option.bind_some, if_true]
        rw [show a + b - b = a by omega]
        simp

end Go.Proofs.Ytblgpjllgadibaa.PureFnNumAdd
