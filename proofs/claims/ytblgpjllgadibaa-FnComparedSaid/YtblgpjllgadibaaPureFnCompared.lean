/- A comparison of intervals, turned round, is that of these exchanged; the opposite one is the opposite, for every code: the law's function returns true. Conditions: none. -/
import Derived.Test.YtblgpjllgadibaaQx2
import Derived.Test.YtblgpjllgadibaaQx3
import Derived.Test.YtblgpjllgadibaaQx5
import Derived.Test.YtblgpjllgadibaaQx6
import Derived.Test.YtblgpjllgadibaaQx7
import Derived.Test.YtblgpjllgadibaaQx8
import Derived.Test.YtblgpjllgadibaaQx9
import Derived.Test.YtblgpjllgadibaaQx10
import Derived.Test.YtblgpjllgadibaaQx11
import Derived.Test.YtblgpjllgadibaaQx12
import Derived.Test.YtblgpjllgadibaaQx13
import Derived.Test.YtblgpjllgadibaaQx15
import Derived.Test.YtblgpjllgadibaaQx19
import Derived.Test.YtblgpjllgadibaaQx27
import Derived.Test.YtblgpjllgadibaaQx28
import Derived.Test.YtblgpjllgadibaaQx29
import Derived.Test.YtblgpjllgadibaaQx30
import Derived.Test.YtblgpjllgadibaaQx31
import Derived.Test.YtblgpjllgadibaaQx32
import Derived.Test.YtblgpjllgadibaaQx33
import Derived.Test.YtblgpjllgadibaaQx34
import Derived.Test.YtblgpjllgadibaaQx35
import Derived.Test.YtblgpjllgadibaaQx36
import Derived.Test.YtblgpjllgadibaaQx37
import Derived.Test.YtblgpjllgadibaaQx38
import Derived.Test.YtblgpjllgadibaaQx39
import Derived.Test.YtblgpjllgadibaaQx40
import Derived.Test.YtblgpjllgadibaaQx41
import Derived.Test.YtblgpjllgadibaaMath
namespace Go.Proofs.Ytblgpjllgadibaa.PureFnCompared
open Go.RowKit Go.Proofs.Ytblgpjllgadibaa Go.Proofs.Ytblgpjllgadibaa.Q Go.Proofs.YtblgpjllgadibaaW.PrintWords Go.Proofs.YtblgpjllgadibaaW.PrintLast
set_option linter.unusedVariables false
set_option linter.unusedSimpArgs false

/-- A code of bytes, and a place in it. -/
def St (l : List Int) (p : Int) : Prop := (∀ x ∈ l, 0 ≤ x ∧ x ≤ 255) ∧ l.length ≤ 1048576 ∧ 0 ≤ p ∧ p ≤ l.length
theorem rd_mem {xs : List Int} {i : Int} (h0 : 0 ≤ i) (h1 : i < xs.length) : rd xs i ∈ xs := by
  unfold rd
  rw [List.getD_eq_getElem?_getD, List.getElem?_eq_getElem (by omega), Option.getD_some]
  exact List.getElem_mem _
theorem w64_in (x : Int) : -9223372036854775808 ≤ wrap64 x ∧ wrap64 x ≤ 9223372036854775807 := by
  unfold wrap64; omega
theorem next_ok {l : List Int} {p : Int} (h : St l p) : ∃ v q, spec_l1Rd_next.f l p = some (v, q) ∧ (0 ≤ v ∧ v ≤ 255) ∧ St l q := by
  obtain ⟨hb, hn, h0, h1⟩ := h
  unfold spec_l1Rd_next.f
  by_cases c : p ≥ (l.length : Int)
  · rw [if_pos c]; exact ⟨0, p, rfl, by omega, hb, hn, h0, h1⟩
  · have e1 : wrap64 (p + 1) = p + 1 := Math.w64_id (by omega) (by omega)
    have e2 : wrap64 (p + 1 - 1) = p := by rw [Math.w64_id (by omega) (by omega)]; omega
    have hv := hb _ (rd_mem h0 (show p < (l.length : Int) by omega))
    rw [if_neg c, e1, e2, if_pos h0, if_pos (by omega), Math.w64_id (by omega) (by omega)]
    exact ⟨rd l p, p + 1, rfl, hv, hb, hn, by omega, by omega⟩
theorem below_ok {l : List Int} {p : Int} (h : St l p) {n : Int} (h1 : 1 < n) (h2 : n ≤ 65536) : ∃ v q, spec_l1Rd_below.f l p n = some (v, q) ∧ (0 ≤ v ∧ v < n) ∧ St l q := by
  unfold spec_l1Rd_below.f
  rw [if_neg (by omega)]
  by_cases c : n ≤ 256
  · obtain ⟨v, q, e, hv, hq⟩ := next_ok h
    rw [if_pos c, e]
    simp only [Option.bind_some]
    rw [if_neg (by omega), Int.tmod_eq_emod_of_nonneg hv.1]
    exact ⟨_, q, rfl, ⟨Int.emod_nonneg _ (by omega), Int.emod_lt_of_pos _ (by omega)⟩, hq⟩
  · obtain ⟨v, q, e, hv, hq⟩ := next_ok h
    obtain ⟨v2, q2, e2, hv2, hq2⟩ := next_ok hq
    rw [if_neg c, e]
    simp only [Option.bind_some]
    rw [e2]
    simp only [Option.bind_some]
    rw [if_neg (by omega), Math.w64_id (x := v * 256) (by omega) (by omega), Math.w64_id (by omega) (by omega), Int.tmod_eq_emod_of_nonneg (by omega)]
    exact ⟨_, q2, rfl, ⟨Int.emod_nonneg _ (by omega), Int.emod_lt_of_pos _ (by omega)⟩, hq2⟩

theorem or_u64 (x y : Int) : 0 ≤ Go.bits .or .u64 x y ∧ Go.bits .or .u64 x y < 18446744073709551616 := by
  have := bounds_u64 (wf_bits .or .u64 x y)
  omega
theorem word_loop {l : List Int} (d : Nat) : ∀ (k : Nat) (x i p : Int), St l p → (0 ≤ x ∧ x < 18446744073709551616) → i + d = 8 → 0 ≤ i → d < k →
    ∃ v q, spec_l1Rd_word.l0 k x i l p = some (v, q) ∧ (0 ≤ v ∧ v < 18446744073709551616) ∧ St l q ∧ ∀ k', d < k' → spec_l1Rd_word.l0 k' x i l p = some (v, q) := by
  induction d with
  | zero =>
    intro k x i p h hx hi h0 hk
    have key : ∀ k', 0 < k' → spec_l1Rd_word.l0 k' x i l p = some (x, p) := by
      intro k' hk'
      obtain ⟨k', rfl⟩ : ∃ m, k' = m + 1 := ⟨k' - 1, by omega⟩
      simp only [spec_l1Rd_word.l0]; rw [if_neg (by omega)]
    exact ⟨x, p, key k hk, hx, h, key⟩
  | succ d ih =>
    intro k x i p h hx hi h0 hk
    obtain ⟨v, q, e, hv, hq⟩ := next_ok h
    obtain ⟨r, q2, _, hr, hq2, all⟩ := ih (d + 1) (Go.bits .or .u64 (IntKind.u64.wrap (x * 256)) (IntKind.u64.wrap v)) (i + 1) q hq (or_u64 _ _) (by omega) (by omega) (by omega)
    have key : ∀ k', d + 1 < k' → spec_l1Rd_word.l0 k' x i l p = some (r, q2) := by
      intro k' hk'
      obtain ⟨k', rfl⟩ : ∃ m, k' = m + 1 := ⟨k' - 1, by omega⟩
      simp only [spec_l1Rd_word.l0]
      rw [if_pos (by omega), e]
      simp only [Option.bind_some]
      rw [Math.w64_id (by omega) (by omega)]
      exact all k' (by omega)
    exact ⟨r, q2, key k hk, hr, hq2, key⟩
theorem word_ok {l : List Int} {p : Int} (h : St l p) : ∃ v q, (∀ k, 9 ≤ k → spec_l1Rd_word.f k l p = some (v, q)) ∧ (0 ≤ v ∧ v < 18446744073709551616) ∧ St l q := by
  obtain ⟨v, q, _, hv, hq, all⟩ := word_loop 8 9 0 0 p h (by omega) (by omega) (by omega) (by omega)
  exact ⟨v, q, fun k hk => all k (by omega), hv, hq⟩

theorem near_ok {l : List Int} {p : Int} (h : St l p) {lo hi : Int} (h1 : -9223372036854775808 ≤ lo ∧ lo ≤ 9223372036854775807) (h2 : -9223372036854775808 ≤ hi ∧ hi ≤ 9223372036854775807) (h3 : hi - lo < 18446744073709551615) :
    ∃ v q, (∀ k, 10 ≤ k → spec_l1Rd_near.f k l p lo hi = some (v, q)) ∧ (-9223372036854775808 ≤ v ∧ v ≤ 9223372036854775807) ∧ St l q := by
  unfold spec_l1Rd_near.f
  obtain ⟨c, q, e, hc, hq⟩ := below_ok h (n := 8) (by decide) (by decide)
  rw [e]
  simp only [Option.bind_some]
  by_cases c0 : c = 0
  · simp only [if_pos c0]; exact ⟨lo, q, fun _ _ => rfl, h1, hq⟩
  · simp only [if_neg c0]
    by_cases c1 : c = 1
    · simp only [if_pos c1]; exact ⟨hi, q, fun _ _ => rfl, h2, hq⟩
    · simp only [if_neg c1]
      by_cases g : hi < lo
      · simp only [if_pos g]; exact ⟨lo, q, fun _ _ => rfl, h1, hq⟩
      · simp only [if_neg g]
        obtain ⟨x, q2, e2, hx, hq2⟩ := word_ok hq
        have hw : IntKind.u64.wrap (wrap64 ((wrap64 (hi - lo)) + 1)) = hi - lo + 1 := by
          rw [Math.uwrap]; unfold wrap64; omega
        refine ⟨_, q2, fun k hk => ?_, w64_in (lo + (wrap64 (Int.tmod (x / 2) (hi - lo + 1)))), hq2⟩
        rw [e2 k (by omega)]
        simp only [Option.bind_some]
        rw [hw, if_neg (by omega)]

theorem once_ok {l : List Int} {p : Int} (h : St l p) {n : Int} (h1 : 1 < n) (h2 : n ≤ 65536) : ∃ b q, spec_l1Rd_once.f l p n = some (b, q) ∧ St l q := by
  obtain ⟨v, q, e, _, hq⟩ := below_ok h h1 h2
  unfold spec_l1Rd_once.f
  rw [e]
  exact ⟨_, q, rfl, hq⟩

theorem off_ok {l : List Int} {p : Int} (h : St l p) {lo hi : Int} (h1 : -9223372036854775808 ≤ lo ∧ lo ≤ 9223372036854775807) (h2 : -9223372036854775808 ≤ hi ∧ hi ≤ 9223372036854775807) (h3 : hi - lo < 18446744073709551615) :
    ∃ v q, (∀ k, 10 ≤ k → spec_l1Rd_off.f k l p lo hi = some (v, q)) ∧ (-9223372036854775808 ≤ v ∧ v ≤ 9223372036854775807) ∧ St l q := by
  unfold spec_l1Rd_off.f
  obtain ⟨o, q, e, hq⟩ := once_ok h (n := 24) (by decide) (by decide)
  rw [e]
  simp only [Option.bind_some]
  cases o with
  | true =>
    obtain ⟨i, q2, e2, hi2, hq2⟩ := below_ok hq (n := 4) (by decide) (by decide)
    simp only [if_true]
    rw [e2]
    simp only [Option.bind_some]
    rw [if_pos hi2.1, if_pos (by simpa using hi2.2)]
    refine ⟨_, q2, fun _ _ => rfl, ?_, hq2⟩
    have hm := rd_mem (xs := [wrap64 (lo - 1), wrap64 (hi + 1), (-9223372036854775808), 9223372036854775807]) hi2.1 (by simpa using hi2.2)
    generalize rd _ i = z at hm
    simp only [List.mem_cons, List.not_mem_nil, or_false] at hm
    rcases hm with rfl | rfl | rfl | rfl
    · exact w64_in _
    · exact w64_in _
    · decide
    · decide
  | false =>
    obtain ⟨v, q2, e2, hv, hq2⟩ := near_ok hq h1 h2 h3
    refine ⟨v, q2, fun k hk => ?_, hv, hq2⟩
    rw [if_neg (by decide), e2 k hk]; rfl

theorem shr_in {x : Int} (y : Int) (h : -9223372036854775808 ≤ x ∧ x ≤ 9223372036854775807) : -9223372036854775808 ≤ shr .i64 x y ∧ shr .i64 x y ≤ 9223372036854775807 := by
  unfold shr
  have hp : (0 : Int) < 2 ^ min y.toNat IntKind.i64.bits := Int.pow_pos (by decide)
  generalize (2 : Int) ^ min y.toNat IntKind.i64.bits = z at hp
  constructor
  · rw [Int.le_ediv_iff_mul_le hp]
    by_cases h0 : (0 : Int) ≤ x
    · have := Int.mul_nonneg (show (0 : Int) ≤ 9223372036854775808 by decide) (Int.le_of_lt hp)
      have e : -9223372036854775808 * z = -(9223372036854775808 * z) := Int.neg_mul _ _
      omega
    · have : (9223372036854775808 : Int) * 1 ≤ 9223372036854775808 * z := Int.mul_le_mul_of_nonneg_left (by omega) (by omega)
      have e : -9223372036854775808 * z = -(9223372036854775808 * z) := Int.neg_mul _ _
      omega
  · by_cases h0 : (0 : Int) ≤ x
    · have := Int.ediv_le_self z h0
      omega
    · have : x / z < 0 := Int.ediv_lt_of_lt_mul hp (by omega)
      omega
theorem num_ok {l : List Int} {p : Int} (h : St l p) : ∃ v q, (∀ k, 9 ≤ k → spec_l1Rd_num.f k l p = some (v, q)) ∧ (-9223372036854775808 ≤ v ∧ v ≤ 9223372036854775807) ∧ St l q := by
  unfold spec_l1Rd_num.f
  obtain ⟨v, q, e, hv, hq⟩ := below_ok h (n := 6) (by decide) (by decide)
  rw [e]
  simp only [Option.bind_some]
  by_cases c0 : v = 0
  · simp only [if_pos c0]
    obtain ⟨i, q2, e2, hi, hq2⟩ := below_ok hq (n := 10) (by decide) (by decide)
    rw [e2]
    simp only [Option.bind_some]
    rw [if_pos hi.1, if_pos (by simpa using hi.2)]
    refine ⟨_, q2, fun _ _ => rfl, ?_, hq2⟩
    have hm := rd_mem (xs := [(-9223372036854775808), (-9223372036854775807), 9223372036854775807, 9223372036854775806, (-1), 0, 1, 4294967296, (-4294967296), 3037000500]) hi.1 (by simpa using hi.2)
    generalize rd _ i = z at hm
    simp only [List.mem_cons, List.not_mem_nil, or_false] at hm
    omega
  · simp only [if_neg c0]
    by_cases c1 : v = 1
    · simp only [if_pos c1]
      obtain ⟨x, q2, e2, hx, hq2⟩ := word_ok hq
      exact ⟨_, q2, fun k hk => by rw [e2 k hk]; rfl, w64_in _, hq2⟩
    · simp only [if_neg c1]
      by_cases c2 : v = 2
      · simp only [if_pos c2]
        obtain ⟨x, q2, e2, hx, hq2⟩ := word_ok hq
        obtain ⟨y, q3, e3, hy, hq3⟩ := below_ok hq2 (n := 60) (by decide) (by decide)
        refine ⟨_, q3, fun k hk => by rw [e2 k hk]; simp only [Option.bind_some]; rw [e3]; simp only [Option.bind_some]; rw [if_pos (by rw [Math.uwrap]; omega)], shr_in _ (w64_in _), hq3⟩
      · simp only [if_neg c2]
        obtain ⟨y, q3, e3, hy, hq3⟩ := below_ok hq (n := 41) (by decide) (by decide)
        rw [e3]
        exact ⟨_, q3, fun _ _ => rfl, w64_in _, hq3⟩

theorem spec_NumAdd_is {a b : Int} (ha : -9223372036854775808 ≤ a ∧ a ≤ 9223372036854775807) (hb : -9223372036854775808 ≤ b ∧ b ≤ 9223372036854775807) :
    spec_NumAdd.f a b = some (Math.addV a b) := by
  unfold spec_NumAdd.f
  rw [if_pos ⟨ha, hb⟩]

theorem addV_in {a b : Int} (ha : -9223372036854775808 ≤ a ∧ a ≤ 9223372036854775807) (hb : -9223372036854775808 ≤ b ∧ b ≤ 9223372036854775807) : -9223372036854775808 ≤ (Math.addV a b).1 ∧ (Math.addV a b).1 ≤ 9223372036854775807 := by
  unfold Math.addV
  split
  · simp
  · split
    · simp
    · simp only; omega
theorem iv_ok {l : List Int} {p : Int} (h : St l p) : ∃ a b q, (∀ k, 10 ≤ k → spec_l1Rd_iv.f k l p = some (a, b, q)) ∧ (-9223372036854775808 ≤ a ∧ a ≤ 9223372036854775807) ∧ (-9223372036854775808 ≤ b ∧ b ≤ 9223372036854775807) ∧ St l q := by
  obtain ⟨a, q, e, ha, hq⟩ := num_ok h
  obtain ⟨c, q2, e2, hc, hq2⟩ := below_ok hq (n := 4) (by decide) (by decide)
  have key : ∀ t : Bool, ∃ b q, (∀ k, 10 ≤ k → spec_l1Rd_iv.j0 k a a t l q2 = some (a, b, q)) ∧ (-9223372036854775808 ≤ b ∧ b ≤ 9223372036854775807) ∧ St l q := by
    intro t
    cases t with
    | true =>
      obtain ⟨i, q3, e3, hi, hq3⟩ := below_ok hq2 (n := 30) (by decide) (by decide)
      by_cases g : (Math.addV a i).1 < a
      · refine ⟨a, q3, fun k hk => ?_, ha, hq3⟩
        obtain ⟨k, rfl⟩ : ∃ m, k = m + 1 := ⟨k - 1, by omega⟩
        simp only [spec_l1Rd_iv.j0, if_true]
        rw [e3]; simp only [Option.bind_some]; rw [spec_NumAdd_is ha (by omega)]; simp only [Option.bind_some]; rw [if_pos g]
      · refine ⟨(Math.addV a i).1, q3, fun k hk => ?_, addV_in ha (by omega), hq3⟩
        obtain ⟨k, rfl⟩ : ∃ m, k = m + 1 := ⟨k - 1, by omega⟩
        simp only [spec_l1Rd_iv.j0, if_true]
        rw [e3]; simp only [Option.bind_some]; rw [spec_NumAdd_is ha (by omega)]; simp only [Option.bind_some]; rw [if_neg g]
    | false =>
      refine ⟨a, q2, fun k hk => ?_, ha, hq2⟩
      obtain ⟨k, rfl⟩ : ∃ m, k = m + 1 := ⟨k - 1, by omega⟩
      simp only [spec_l1Rd_iv.j0]
      rw [if_neg (by decide), if_neg (Int.lt_irrefl a)]
  unfold spec_l1Rd_iv.f
  by_cases c0 : c = 0
  · obtain ⟨b, q3, e3, hb, hq3⟩ := num_ok hq2
    by_cases g : b < a
    · obtain ⟨o, q4, e4, hq4⟩ := once_ok hq3 (n := 12) (by decide) (by decide)
      cases o with
      | true =>
        refine ⟨a, b, q4, fun k hk => ?_, ha, hb, hq4⟩
        rw [e k (by omega)]; simp only [Option.bind_some]; rw [e2]; simp only [Option.bind_some]; rw [if_pos c0, e3 k (by omega)]; simp only [Option.bind_some]; rw [if_pos g, e4]; rfl
      | false =>
        refine ⟨b, a, q4, fun k hk => ?_, hb, ha, hq4⟩
        rw [e k (by omega)]; simp only [Option.bind_some]; rw [e2]; simp only [Option.bind_some]; rw [if_pos c0, e3 k (by omega)]; simp only [Option.bind_some]; rw [if_pos g, e4]; rfl
    · refine ⟨a, b, q3, fun k hk => ?_, ha, hb, hq3⟩
      rw [e k (by omega)]; simp only [Option.bind_some]; rw [e2]; simp only [Option.bind_some]; rw [if_pos c0, e3 k (by omega)]; simp only [Option.bind_some]; rw [if_neg g]
  · by_cases c1 : c = 1
    · obtain ⟨b, q3, e3, hb, hq3⟩ := key (c == 1)
      refine ⟨a, b, q3, fun k hk => ?_, ha, hb, hq3⟩
      rw [e k (by omega)]; simp only [Option.bind_some]; rw [e2]; simp only [Option.bind_some]; rw [if_neg c0, if_pos c1]; exact e3 k hk
    · obtain ⟨b, q3, e3, hb, hq3⟩ := key (c == 2)
      refine ⟨a, b, q3, fun k hk => ?_, ha, hb, hq3⟩
      rw [e k (by omega)]; simp only [Option.bind_some]; rw [e2]; simp only [Option.bind_some]; rw [if_neg c0, if_neg c1]; exact e3 k hk

theorem mn_in {a b : Int} (ha : -9223372036854775808 ≤ a ∧ a ≤ 9223372036854775807) (hb : -9223372036854775808 ≤ b ∧ b ≤ 9223372036854775807) : -9223372036854775808 ≤ mn a b ∧ mn a b ≤ 9223372036854775807 := by
  unfold mn; split <;> omega
theorem mx_in {a b : Int} (ha : -9223372036854775808 ≤ a ∧ a ≤ 9223372036854775807) (hb : -9223372036854775808 ≤ b ∧ b ≤ 9223372036854775807) : -9223372036854775808 ≤ mx a b ∧ mx a b ≤ 9223372036854775807 := by
  unfold mx; split <;> omega
theorem drawIvLeq_ok {l : List Int} (h : ∀ x ∈ l, 0 ≤ x ∧ x ≤ 255) (hn : l.length ≤ 1048576) : ∃ a b c d, (∀ k, 10 ≤ k → spec_DrawIvLeq.f k l = some (a, b, c, d)) ∧ (-9223372036854775808 ≤ a ∧ a ≤ 9223372036854775807) ∧ (-9223372036854775808 ≤ b ∧ b ≤ 9223372036854775807) ∧ (-9223372036854775808 ≤ c ∧ c ≤ 9223372036854775807) ∧ (-9223372036854775808 ≤ d ∧ d ≤ 9223372036854775807) := by
  have h0 : St l 0 := ⟨h, hn, by omega, by omega⟩
  obtain ⟨a, b, q, e, ha, hb, hq⟩ := iv_ok h0
  obtain ⟨o, q2, e2, hq2⟩ := once_ok hq (n := 2) (by decide) (by decide)
  obtain ⟨c, d, q3, e3, hc, hd, hq3⟩ := iv_ok hq2
  unfold spec_DrawIvLeq.f spec_l1Open.f
  cases o with
  | true =>
    refine ⟨a, b, mn a c, mx b d, fun k hk => ?_, ha, hb, mn_in ha hc, mx_in hb hd⟩
    simp only [Option.bind_some]; rw [e k hk]; simp only [Option.bind_some]; rw [e2]; simp only [Option.bind_some, if_true]; rw [e3 k hk]; rfl
  | false =>
    refine ⟨a, b, c, d, fun k hk => ?_, ha, hb, hc, hd⟩
    simp only [Option.bind_some]; rw [e k hk]; simp only [Option.bind_some]; rw [e2]; simp only [Option.bind_some]; rw [if_neg (by decide), e3 k hk]; rfl

theorem small_ok {l : List Int} {p : Int} (h : St l p) : ∃ a b q, (∀ k, 10 ≤ k → spec_l1Rd_small.f k l p = some (a, b, q)) ∧ (-9223372036854775808 ≤ a ∧ a ≤ 9223372036854775807) ∧ (-9223372036854775808 ≤ b ∧ b ≤ 9223372036854775807) ∧ St l q := by
  unfold spec_l1Rd_small.f
  obtain ⟨o, q, e, hq⟩ := once_ok h (n := 6) (by decide) (by decide)
  rw [e]
  simp only [Option.bind_some]
  cases o with
  | true =>
    obtain ⟨a, b, q2, e2, ha, hb, hq2⟩ := iv_ok hq
    exact ⟨mn a b, mx a b, q2, fun k hk => by rw [if_pos rfl, e2 k hk]; rfl, mn_in ha hb, mx_in ha hb, hq2⟩
  | false =>
    obtain ⟨i, q2, e2, hi, hq2⟩ := below_ok hq (n := 20) (by decide) (by decide)
    obtain ⟨j, q3, e3, hj, hq3⟩ := below_ok hq2 (n := 9) (by decide) (by decide)
    refine ⟨wrap64 (i - 8), wrap64 ((wrap64 (i - 8)) + j), q3, fun k hk => ?_, w64_in _, w64_in _, hq3⟩
    rw [if_neg (by decide), e2]; simp only [Option.bind_some]; rw [e3]; rfl
theorem drawIvCompare_ok {l : List Int} (h : ∀ x ∈ l, 0 ≤ x ∧ x ≤ 255) (hn : l.length ≤ 1048576) : ∃ op a b c d, (∀ k, 11 ≤ k → spec_DrawIvCompare.f k l = some (op, a, b, c, d)) ∧ (-9223372036854775808 ≤ op ∧ op ≤ 9223372036854775807) ∧ (-9223372036854775808 ≤ a ∧ a ≤ 9223372036854775807) ∧ (-9223372036854775808 ≤ b ∧ b ≤ 9223372036854775807) ∧ (-9223372036854775808 ≤ c ∧ c ≤ 9223372036854775807) ∧ (-9223372036854775808 ≤ d ∧ d ≤ 9223372036854775807) := by
  have h0 : St l 0 := ⟨h, hn, by omega, by omega⟩
  have key : ∀ (op q : Int), St l q → ∃ a b c d, (∀ k, 11 ≤ k → spec_DrawIvCompare.j0 k op l q = some (op, a, b, c, d)) ∧ (-9223372036854775808 ≤ a ∧ a ≤ 9223372036854775807) ∧ (-9223372036854775808 ≤ b ∧ b ≤ 9223372036854775807) ∧ (-9223372036854775808 ≤ c ∧ c ≤ 9223372036854775807) ∧ (-9223372036854775808 ≤ d ∧ d ≤ 9223372036854775807) := by
    intro op q hq
    obtain ⟨o, q2, e2, hq2⟩ := once_ok hq (n := 2) (by decide) (by decide)
    cases o with
    | true =>
      obtain ⟨a, b, q3, e3, ha, hb, hq3⟩ := small_ok hq2
      obtain ⟨c, d, q4, e4, hc, hd, hq4⟩ := small_ok hq3
      refine ⟨a, b, c, d, fun k hk => ?_, ha, hb, hc, hd⟩
      obtain ⟨k, rfl⟩ : ∃ m, k = m + 1 := ⟨k - 1, by omega⟩
      simp only [spec_DrawIvCompare.j0]
      rw [e2]; simp only [Option.bind_some, if_true]; rw [e3 k (by omega)]; simp only [Option.bind_some]; rw [e4 k (by omega)]; rfl
    | false =>
      obtain ⟨a, b, q3, e3, ha, hb, hq3⟩ := iv_ok hq2
      obtain ⟨c, d, q4, e4, hc, hd, hq4⟩ := iv_ok hq3
      refine ⟨a, b, c, d, fun k hk => ?_, ha, hb, hc, hd⟩
      obtain ⟨k, rfl⟩ : ∃ m, k = m + 1 := ⟨k - 1, by omega⟩
      simp only [spec_DrawIvCompare.j0]
      rw [e2]; simp only [Option.bind_some]; rw [if_neg (by decide), e3 k (by omega)]; simp only [Option.bind_some]; rw [e4 k (by omega)]; rfl
  unfold spec_DrawIvCompare.f spec_l1Open.f
  simp only [Option.bind_some]
  obtain ⟨i, q, e, hi, hq⟩ := below_ok h0 (n := 6) (by decide) (by decide)
  obtain ⟨o, q2, e2, hq2⟩ := once_ok hq (n := 20) (by decide) (by decide)
  cases o with
  | true =>
    obtain ⟨op, q3, e3, hop, hq3⟩ := off_ok hq2 (lo := 1) (hi := 21) (by decide) (by decide) (by decide)
    obtain ⟨a, b, c, d, e4, r⟩ := key op q3 hq3
    refine ⟨op, a, b, c, d, fun k hk => ?_, hop, r⟩
    rw [e]; simp only [Option.bind_some]; rw [e2]; simp only [Option.bind_some, if_true]; rw [e3 k (by omega)]; exact e4 k hk
  | false =>
    obtain ⟨a, b, c, d, e4, r⟩ := key (wrap64 (13 + i)) q2 hq2
    refine ⟨wrap64 (13 + i), a, b, c, d, fun k hk => ?_, w64_in _, r⟩
    rw [e]; simp only [Option.bind_some]; rw [e2]; simp only [Option.bind_some]; rw [if_neg (by decide)]; exact e4 k hk

def b2i (b : Bool) : Int := if b = true then 1 else 0
def allV (op a b c d : Int) : Bool :=
  if op = 13 then decide (b < c) else if op = 14 then decide (b ≤ c) else if op = 15 then decide (a = b ∧ a = c ∧ b = d) else if op = 16 then decide (b < c ∨ d < a) else if op = 17 then decide (d < a) else decide (d ≤ a)
def cmpV (op a b c d : Int) : Int × Int := if (13 ≤ op ∧ op ≤ 18) ∧ a ≤ b ∧ c ≤ d then (b2i (allV op a b c d), 1 - b2i (allV (31 - op) a b c d)) else (0, 0)
theorem six {op : Int} (h : 13 ≤ op ∧ op ≤ 18) : op = 13 ∨ op = 14 ∨ op = 15 ∨ op = 16 ∨ op = 17 ∨ op = 18 := by omega
theorem b2i_in (b : Bool) : 0 ≤ b2i b ∧ b2i b ≤ 1 := by cases b <;> decide
theorem not_both {op a b c d : Int} (h : 13 ≤ op ∧ op ≤ 18) (g1 : a ≤ b) (g2 : c ≤ d) (h1 : allV op a b c d = true) : allV (31 - op) a b c d = false := by
  rcases six h with rfl | rfl | rfl | rfl | rfl | rfl <;> simp [allV] at h1 ⊢ <;> omega
theorem mayHold_is (k : Nat) (hk : 2 ≤ k) {op a b c d : Int} (h : 13 ≤ op ∧ op ≤ 18) (g1 : a ≤ b) (g2 : c ≤ d) : impl_mayHold.f k op a b c d = some (!allV (31 - op) a b c d) := by
  obtain ⟨k, rfl⟩ : ∃ m, k = m + 2 := ⟨k - 2, by omega⟩
  rcases six h with rfl | rfl | rfl | rfl | rfl | rfl
  · have e : decide (a < d) = !decide (d ≤ a) := by rw [Bool.eq_iff_iff]; simp only [Bool.not_eq_true', decide_eq_true_eq, decide_eq_false_iff_not]; omega
    simpa [impl_mayHold.f, allV] using e
  · have e : decide (a ≤ d) = !decide (d < a) := by rw [Bool.eq_iff_iff]; simp only [Bool.not_eq_true', decide_eq_true_eq, decide_eq_false_iff_not]; omega
    simpa [impl_mayHold.f, allV] using e
  · have e : (if a ≤ d then some (decide (c ≤ b)) else some false) = some (!decide (b < c ∨ d < a)) := by
      by_cases h1 : a ≤ d
      · rw [if_pos h1]; congr 1; rw [Bool.eq_iff_iff]; simp only [Bool.not_eq_true', decide_eq_true_eq, decide_eq_false_iff_not]; omega
      · rw [if_neg h1]; congr 1; rw [Bool.eq_iff_iff]; simp only [Bool.false_eq_true, false_iff, Bool.not_eq_true', decide_eq_true_eq, decide_eq_false_iff_not]; omega
    simpa [impl_mayHold.f, allV] using e
  · have e : (if a = b then (if c = d then some (a != c) else some true) else some true) = some (!decide (a = b ∧ a = c ∧ b = d)) := by
      by_cases h1 : a = b
      · rw [if_pos h1]
        by_cases h2 : c = d
        · rw [if_pos h2]; congr 1; rw [Bool.eq_iff_iff]; simp only [Bool.not_eq_true', bne_iff_ne, ne_eq, decide_eq_false_iff_not]; omega
        · rw [if_neg h2]; congr 1; rw [Bool.eq_iff_iff]; simp only [Bool.not_eq_true', true_iff, decide_eq_false_iff_not]; omega
      · rw [if_neg h1]; congr 1; rw [Bool.eq_iff_iff]; simp only [Bool.not_eq_true', true_iff, decide_eq_false_iff_not]; omega
    simpa [impl_mayHold.f, allV] using e
  · have e : decide (c < b) = !decide (b ≤ c) := by rw [Bool.eq_iff_iff]; simp only [Bool.not_eq_true', decide_eq_true_eq, decide_eq_false_iff_not]; omega
    simpa [impl_mayHold.f, impl_turned.f, allV] using e
  · have e : decide (c ≤ b) = !decide (b < c) := by rw [Bool.eq_iff_iff]; simp only [Bool.not_eq_true', decide_eq_true_eq, decide_eq_false_iff_not]; omega
    simpa [impl_mayHold.f, impl_turned.f, allV] using e
theorem opposite_is {op : Int} (h : 13 ≤ op ∧ op ≤ 18) : impl_opposite.f op = some (31 - op) := by
  rcases six h with rfl | rfl | rfl | rfl | rfl | rfl <;> simp [impl_opposite.f]
theorem impl_IvCompare_is (k : Nat) (hk : 5 ≤ k) (op a b c d : Int) : impl_IvCompare.f k op a b c d = some (cmpV op a b c d) := by
  obtain ⟨k, rfl⟩ : ∃ m, k = m + 1 := ⟨k - 1, by omega⟩
  have zero : (¬ ((13 ≤ op ∧ op ≤ 18) ∧ a ≤ b ∧ c ≤ d)) → impl_IvCompare.j0 (k + 1) op true a b c d = some (cmpV op a b c d) := by
    intro h
    simp only [impl_IvCompare.j0]
    rw [if_pos trivial, show cmpV op a b c d = (0, 0) from if_neg h]
  have hw : impl_within.f op 13 18 = some (decide (13 ≤ op ∧ op ≤ 18)) := by
    unfold impl_within.f
    by_cases h : 13 ≤ op <;> simp [h]
  have hi : impl_areIvs.f a b c d = some (decide (a ≤ b ∧ c ≤ d)) := by
    simp only [impl_areIvs.f, impl_IvOk.f, Option.bind_some]
    by_cases h : a ≤ b <;> simp [h]
  unfold impl_IvCompare.f
  rw [hw, hi]
  simp only [Option.bind_some]
  by_cases h : 13 ≤ op ∧ op ≤ 18
  · rw [if_pos (by simpa using h)]
    by_cases g : a ≤ b ∧ c ≤ d
    · rw [show (!decide (a ≤ b ∧ c ≤ d)) = false by simpa using g]
      simp only [impl_IvCompare.j0]
      have h' : 13 ≤ 31 - op ∧ 31 - op ≤ 18 := by omega
      rw [if_neg (by decide), opposite_is h]
      simp only [Option.bind_some]
      rw [mayHold_is k (by omega) h' g.1 g.2, mayHold_is k (by omega) h g.1 g.2, show 31 - (31 - op) = op by omega]
      simp only [Option.bind_some, impl_truthOf.f, impl_one.f]
      rw [show cmpV op a b c d = (b2i (allV op a b c d), 1 - b2i (allV (31 - op) a b c d)) from if_pos ⟨h, g⟩]
      cases e1 : allV op a b c d with
      | true => rw [not_both h g.1 g.2 e1]; rfl
      | false => cases e2 : allV (31 - op) a b c d <;> rfl
    · rw [show (!decide (a ≤ b ∧ c ≤ d)) = true by rw [decide_eq_false g]; rfl]
      exact zero (fun x => g x.2)
  · rw [if_neg (by simpa using h)]
    exact zero (fun x => h x.1)
theorem l7All_is {op a b c d : Int} (h : 13 ≤ op ∧ op ≤ 18) : spec_l7All.f op a b c d = some (allV op a b c d) := by
  rcases six h with rfl | rfl | rfl | rfl | rfl | rfl
  · simp [spec_l7All.f, allV]
  · simp [spec_l7All.f, allV]
  · simp only [spec_l7All.f, allV]
    simp
    by_cases h1 : a = b
    · rw [if_pos h1]; simp [h1]; rw [Bool.eq_iff_iff]; simp
    · rw [if_neg h1]; simp [h1]
  · simp only [spec_l7All.f, allV]
    simp
    by_cases h1 : b < c
    · rw [if_pos h1]; simp [h1]
    · rw [if_neg h1]; simp [h1]
  · simp [spec_l7All.f, allV]
  · simp [spec_l7All.f, allV]
theorem l7Not_is {op : Int} (h : 13 ≤ op ∧ op ≤ 18) : spec_l7Not.f op = some (31 - op) := by
  rcases six h with rfl | rfl | rfl | rfl | rfl | rfl <;> simp [spec_l7Not.f, wrap64, rd]
theorem spec_IvCompare_is (k : Nat) (hk : 5 ≤ k) (op a b c d : Int) : spec_IvCompare.f k op a b c d = some (cmpV op a b c d) := by
  obtain ⟨k, rfl⟩ : ∃ m, k = m + 1 := ⟨k - 1, by omega⟩
  have zero : (¬ ((13 ≤ op ∧ op ≤ 18) ∧ a ≤ b ∧ c ≤ d)) → spec_IvCompare.j0 (k + 1) op true a b c d = some (cmpV op a b c d) := by
    intro h
    simp only [spec_IvCompare.j0]
    rw [if_pos trivial, show cmpV op a b c d = (0, 0) from if_neg h]
  have hw : spec_l7Compares.f op = some (decide (13 ≤ op ∧ op ≤ 18)) := by
    unfold spec_l7Compares.f spec_l1In.f
    by_cases h : op ≥ 13
    · rw [if_pos h]; simp; omega
    · rw [if_neg h]; simp; omega
  unfold spec_IvCompare.f spec_IvOk.f
  rw [hw]
  simp only [Option.bind_some]
  by_cases h : 13 ≤ op ∧ op ≤ 18
  · rw [if_pos (by simpa using h)]
    by_cases g1 : a ≤ b
    · rw [if_pos (by simpa using g1)]
      by_cases g2 : c ≤ d
      · rw [show (!decide (c ≤ d)) = false by simpa using g2]
        simp only [spec_IvCompare.j0]
        have h' : 13 ≤ 31 - op ∧ 31 - op ≤ 18 := by omega
        rw [if_neg (by decide), l7All_is h, l7Not_is h]
        simp only [Option.bind_some]
        rw [l7All_is h']
        have one : ∀ t : Bool, spec_l5One.f t = some (b2i t) := by intro t; cases t <;> rfl
        rw [one]
        simp only [Option.bind_some]
        rw [one]
        simp only [Option.bind_some]
        have := b2i_in (allV (31 - op) a b c d)
        rw [show cmpV op a b c d = (b2i (allV op a b c d), 1 - b2i (allV (31 - op) a b c d)) from if_pos ⟨h, g1, g2⟩, Math.w64_id (by omega) (by omega)]
      · rw [show (!decide (c ≤ d)) = true by simpa using g2]
        exact zero (fun x => g2 x.2.2)
    · rw [if_neg (by simpa using g1)]
      exact zero (fun x => g1 x.2.1)
  · rw [if_neg (by simpa using h)]
    exact zero (fun x => h x.1)

def turnV (op : Int) : Int := if op = 13 then 17 else if op = 14 then 18 else if op = 17 then 13 else if op = 18 then 14 else op
theorem turn_all {op a b c d : Int} (h : 13 ≤ op ∧ op ≤ 18) (g1 : a ≤ b) (g2 : c ≤ d) : allV (turnV op) c d a b = allV op a b c d := by
  have e15 : decide (c = d ∧ c = a ∧ d = b) = decide (a = b ∧ a = c ∧ b = d) := by rw [Bool.eq_iff_iff]; simp only [decide_eq_true_eq]; omega
  have e16 : decide (d < a ∨ b < c) = decide (b < c ∨ d < a) := by rw [Bool.eq_iff_iff]; simp only [decide_eq_true_eq]; omega
  rcases six h with rfl | rfl | rfl | rfl | rfl | rfl
  · simp [turnV, allV]
  · simp [turnV, allV]
  · simpa [turnV, allV] using e15
  · simpa [turnV, allV] using e16
  · simp [turnV, allV]
  · simp [turnV, allV]
theorem FnCompared (l0 : List Int) (b0 : ∀ x ∈ l0, 0 ≤ x ∧ x ≤ 255) : ∃ k, laws_FnCompared.f k l0 = some true := by
  refine ⟨21, ?_⟩
  unfold laws_FnCompared.f laws_big.f
  simp only [Option.bind_some]
  by_cases hn : (l0.length : Int) > 1048576
  · rw [if_pos (by simpa using hn)]
  · rw [if_neg (by simpa using hn)]
    obtain ⟨op, a, b, c, d, e, hop, ha, hb, hc, hd⟩ := drawIvCompare_ok b0 (by omega)
    rw [e 21 (by omega)]
    simp only [Option.bind_some]
    rw [impl_IvCompare_is 21 (by omega), spec_IvCompare_is 21 (by omega)]
    simp only [Option.bind_some, beq_self_eq_true, Bool.not_true, Bool.or_self]
    rw [if_neg (by decide)]
    have done : laws_FnCompared.j0 21 op true a b c d (cmpV op a b c d).1 (cmpV op a b c d).2 = some true := by
      simp only [laws_FnCompared.j0]
      rw [if_pos trivial, spec_IvCompare_is 20 (by omega)]
      simp
    by_cases h1 : op < 13
    · rw [if_pos h1]; exact done
    · rw [if_neg h1]
      by_cases h2 : op > 18
      · rw [if_pos h2]; exact done
      · rw [if_neg h2]
        have h : 13 ≤ op ∧ op ≤ 18 := by omega
        simp only [spec_IvOk.f, Option.bind_some]
        by_cases g1 : a ≤ b
        · rw [if_pos (by simpa using g1)]
          by_cases g2 : c ≤ d
          · rw [show (!decide (c ≤ d)) = false by simpa using g2]
            have w : wrap64 (op - 13) = op - 13 := Math.w64_id (by omega) (by omega)
            have r1 : rd [17, 18, 15, 16, 13, 14] (op - 13) = turnV op := by
              rcases six h with rfl | rfl | rfl | rfl | rfl | rfl <;> rfl
            have r2 : rd [18, 17, 16, 15, 14, 13] (op - 13) = 31 - op := by
              rcases six h with rfl | rfl | rfl | rfl | rfl | rfl <;> rfl
            have t : 13 ≤ turnV op ∧ turnV op ≤ 18 := by
              rcases six h with rfl | rfl | rfl | rfl | rfl | rfl <;> decide
            have t2 : 31 - turnV op = turnV (31 - op) := by
              rcases six h with rfl | rfl | rfl | rfl | rfl | rfl <;> rfl
            have h' : 13 ≤ 31 - op ∧ 31 - op ≤ 18 := by omega
            have c0 : cmpV op a b c d = (b2i (allV op a b c d), 1 - b2i (allV (31 - op) a b c d)) := if_pos ⟨h, g1, g2⟩
            have c1 : cmpV (turnV op) c d a b = (b2i (allV op a b c d), 1 - b2i (allV (31 - op) a b c d)) := by
              rw [show cmpV (turnV op) c d a b = (b2i (allV (turnV op) c d a b), 1 - b2i (allV (31 - turnV op) c d a b)) from if_pos ⟨t, g2, g1⟩, t2, turn_all h g1 g2, turn_all h' g1 g2]
            have c2 : cmpV (31 - op) a b c d = (b2i (allV (31 - op) a b c d), 1 - b2i (allV op a b c d)) := by
              rw [show cmpV (31 - op) a b c d = (b2i (allV (31 - op) a b c d), 1 - b2i (allV (31 - (31 - op)) a b c d)) from if_pos ⟨h', g1, g2⟩, show 31 - (31 - op) = op by omega]
            have i1 := b2i_in (allV op a b c d)
            have i2 := b2i_in (allV (31 - op) a b c d)
            simp only [laws_FnCompared.j0]
            rw [if_neg (by decide), w]
            simp only [Option.bind_some]
            rw [if_pos (by omega), if_pos (by simp; omega), if_pos (by simp; omega), r1, r2, impl_IvCompare_is 20 (by omega), impl_IvCompare_is 20 (by omega), c0, c1, c2]
            simp only [Option.bind_some, beq_self_eq_true, Bool.and_self, if_true]
            rw [Math.w64_id (x := 1 - (1 - b2i (allV (31 - op) a b c d))) (by omega) (by omega), Math.w64_id (by omega) (by omega), show 1 - (1 - b2i (allV (31 - op) a b c d)) = b2i (allV (31 - op) a b c d) by omega]
            simp
          · rw [show (!decide (c ≤ d)) = true by simpa using g2]
            exact done
        · rw [if_neg (by simpa using g1)]
          exact done

end Go.Proofs.Ytblgpjllgadibaa.PureFnCompared
