/- A meet has just the numbers that both have, for every code: the law's function returns true. Conditions: none. -/
import Derived.Test.YtblgpjllgadibaaQx2
import Derived.Test.YtblgpjllgadibaaQx3
import Derived.Test.YtblgpjllgadibaaQx4
import Derived.Test.YtblgpjllgadibaaQx5
import Derived.Test.YtblgpjllgadibaaQx6
import Derived.Test.YtblgpjllgadibaaQx7
import Derived.Test.YtblgpjllgadibaaQx8
import Derived.Test.YtblgpjllgadibaaQx9
import Derived.Test.YtblgpjllgadibaaQx10
import Derived.Test.YtblgpjllgadibaaQx11
import Derived.Test.YtblgpjllgadibaaQx12
import Derived.Test.YtblgpjllgadibaaQx13
import Derived.Test.YtblgpjllgadibaaQx14
import Derived.Test.YtblgpjllgadibaaQx15
import Derived.Test.YtblgpjllgadibaaQx16
import Derived.Test.YtblgpjllgadibaaQx17
import Derived.Test.YtblgpjllgadibaaQx18
import Derived.Test.YtblgpjllgadibaaQx19
import Derived.Test.YtblgpjllgadibaaQx20
import Derived.Test.YtblgpjllgadibaaQx21
import Derived.Test.YtblgpjllgadibaaMath
namespace Go.Proofs.Ytblgpjllgadibaa.PureFnIvMeet
open Go.RowKit Go.Proofs.Ytblgpjllgadibaa Go.Proofs.Ytblgpjllgadibaa.Q Go.Proofs.YtblgpjllgadibaaW.PrintWords Go.Proofs.YtblgpjllgadibaaW.PrintLast
set_option linter.unusedVariables false
set_option linter.unusedSimpArgs false

/-- A code of bytes, and a place in it. -/
def St (l : List Int) (p : Int) : Prop := (∀ x ∈ l, 0 ≤ x ∧ x ≤ 255) ∧ l.length ≤ 1048576 ∧ 0 ≤ p ∧ p ≤ l.length
theorem rd_mem {xs : List Int} {i : Int} (h0 : 0 ≤ i) (h1 : i < xs.length) : rd xs i ∈ xs := by
  unfold rd
  rw [List.getD_eq_getElem?_getD, List.getElem?_eq_getElem (by omega), Option.getD_some]
  exact List.getElem_mem _
theorem w64_in (x : Int) : -9223372036854775808 ≤ wrap64 x ∧ wrap64 x ≤ 9223372036854775807 := by
  unfold wrap64; omega
theorem next_ok {l : List Int} {p : Int} (h : St l p) : ∃ v q, spec_l1Rd_next.f l p = some (v, q) ∧ (0 ≤ v ∧ v ≤ 255) ∧ St l q := by
  obtain ⟨hb, hn, h0, h1⟩ := h
  unfold spec_l1Rd_next.f
  by_cases c : p ≥ (l.length : Int)
  · rw [if_pos c]; exact ⟨0, p, rfl, by omega, hb, hn, h0, h1⟩
  · have e1 : wrap64 (p + 1) = p + 1 := Math.w64_id (by omega) (by omega)
    have e2 : wrap64 (p + 1 - 1) = p := by rw [Math.w64_id (by omega) (by omega)]; omega
    have hv := hb _ (rd_mem h0 (show p < (l.length : Int) by omega))
    rw [if_neg c, e1, e2, if_pos h0, if_pos (by omega), Math.w64_id (by omega) (by omega)]
    exact ⟨rd l p, p + 1, rfl, hv, hb, hn, by omega, by omega⟩
theorem below_ok {l : List Int} {p : Int} (h : St l p) {n : Int} (h1 : 1 < n) (h2 : n ≤ 65536) : ∃ v q, spec_l1Rd_below.f l p n = some (v, q) ∧ (0 ≤ v ∧ v < n) ∧ St l q := by
  unfold spec_l1Rd_below.f
  rw [if_neg (by omega)]
  by_cases c : n ≤ 256
  · obtain ⟨v, q, e, hv, hq⟩ := next_ok h
    rw [if_pos c, e]
    simp only [Option.bind_some]
    rw [if_neg (by omega), Int.tmod_eq_emod_of_nonneg hv.1]
    exact ⟨_, q, rfl, ⟨Int.emod_nonneg _ (by omega), Int.emod_lt_of_pos _ (by omega)⟩, hq⟩
  · obtain ⟨v, q, e, hv, hq⟩ := next_ok h
    obtain ⟨v2, q2, e2, hv2, hq2⟩ := next_ok hq
    rw [if_neg c, e]
    simp only [Option.bind_some]
    rw [e2]
    simp only [Option.bind_some]
    rw [if_neg (by omega), Math.w64_id (x := v * 256) (by omega) (by omega), Math.w64_id (by omega) (by omega), Int.tmod_eq_emod_of_nonneg (by omega)]
    exact ⟨_, q2, rfl, ⟨Int.emod_nonneg _ (by omega), Int.emod_lt_of_pos _ (by omega)⟩, hq2⟩

theorem or_u64 (x y : Int) : 0 ≤ Go.bits .or .u64 x y ∧ Go.bits .or .u64 x y < 18446744073709551616 := by
  have := bounds_u64 (wf_bits .or .u64 x y)
  omega
theorem word_loop {l : List Int} (d : Nat) : ∀ (k : Nat) (x i p : Int), St l p → (0 ≤ x ∧ x < 18446744073709551616) → i + d = 8 → 0 ≤ i → d < k →
    ∃ v q, spec_l1Rd_word.l0 k x i l p = some (v, q) ∧ (0 ≤ v ∧ v < 18446744073709551616) ∧ St l q ∧ ∀ k', d < k' → spec_l1Rd_word.l0 k' x i l p = some (v, q) := by
  induction d with
  | zero =>
    intro k x i p h hx hi h0 hk
    have key : ∀ k', 0 < k' → spec_l1Rd_word.l0 k' x i l p = some (x, p) := by
      intro k' hk'
      obtain ⟨k', rfl⟩ : ∃ m, k' = m + 1 := ⟨k' - 1, by omega⟩
      simp only [spec_l1Rd_word.l0]; rw [if_neg (by omega)]
    exact ⟨x, p, key k hk, hx, h, key⟩
  | succ d ih =>
    intro k x i p h hx hi h0 hk
    obtain ⟨v, q, e, hv, hq⟩ := next_ok h
    obtain ⟨r, q2, _, hr, hq2, all⟩ := ih (d + 1) (Go.bits .or .u64 (IntKind.u64.wrap (x * 256)) (IntKind.u64.wrap v)) (i + 1) q hq (or_u64 _ _) (by omega) (by omega) (by omega)
    have key : ∀ k', d + 1 < k' → spec_l1Rd_word.l0 k' x i l p = some (r, q2) := by
      intro k' hk'
      obtain ⟨k', rfl⟩ : ∃ m, k' = m + 1 := ⟨k' - 1, by omega⟩
      simp only [spec_l1Rd_word.l0]
      rw [if_pos (by omega), e]
      simp only [Option.bind_some]
      rw [Math.w64_id (by omega) (by omega)]
      exact all k' (by omega)
    exact ⟨r, q2, key k hk, hr, hq2, key⟩
theorem word_ok {l : List Int} {p : Int} (h : St l p) : ∃ v q, (∀ k, 9 ≤ k → spec_l1Rd_word.f k l p = some (v, q)) ∧ (0 ≤ v ∧ v < 18446744073709551616) ∧ St l q := by
  obtain ⟨v, q, _, hv, hq, all⟩ := word_loop 8 9 0 0 p h (by omega) (by omega) (by omega) (by omega)
  exact ⟨v, q, fun k hk => all k (by omega), hv, hq⟩

theorem shr_in {x : Int} (y : Int) (h : -9223372036854775808 ≤ x ∧ x ≤ 9223372036854775807) : -9223372036854775808 ≤ shr .i64 x y ∧ shr .i64 x y ≤ 9223372036854775807 := by
  unfold shr
  have hp : (0 : Int) < 2 ^ min y.toNat IntKind.i64.bits := Int.pow_pos (by decide)
  generalize (2 : Int) ^ min y.toNat IntKind.i64.bits = z at hp
  constructor
  · rw [Int.le_ediv_iff_mul_le hp]
    by_cases h0 : (0 : Int) ≤ x
    · have := Int.mul_nonneg (show (0 : Int) ≤ 9223372036854775808 by decide) (Int.le_of_lt hp)
      have e : -9223372036854775808 * z = -(9223372036854775808 * z) := Int.neg_mul _ _
      omega
    · have : (9223372036854775808 : Int) * 1 ≤ 9223372036854775808 * z := Int.mul_le_mul_of_nonneg_left (by omega) (by omega)
      have e : -9223372036854775808 * z = -(9223372036854775808 * z) := Int.neg_mul _ _
      omega
  · by_cases h0 : (0 : Int) ≤ x
    · have := Int.ediv_le_self z h0
      omega
    · have : x / z < 0 := Int.ediv_lt_of_lt_mul hp (by omega)
      omega
theorem num_ok {l : List Int} {p : Int} (h : St l p) : ∃ v q, (∀ k, 9 ≤ k → spec_l1Rd_num.f k l p = some (v, q)) ∧ (-9223372036854775808 ≤ v ∧ v ≤ 9223372036854775807) ∧ St l q := by
  unfold spec_l1Rd_num.f
  obtain ⟨v, q, e, hv, hq⟩ := below_ok h (n := 6) (by decide) (by decide)
  rw [e]
  simp only [Option.bind_some]
  by_cases c0 : v = 0
  · simp only [if_pos c0]
    obtain ⟨i, q2, e2, hi, hq2⟩ := below_ok hq (n := 10) (by decide) (by decide)
    rw [e2]
    simp only [Option.bind_some]
    rw [if_pos hi.1, if_pos (by simpa using hi.2)]
    refine ⟨_, q2, fun _ _ => rfl, ?_, hq2⟩
    have hm := rd_mem (xs := [(-9223372036854775808), (-9223372036854775807), 9223372036854775807, 9223372036854775806, (-1), 0, 1, 4294967296, (-4294967296), 3037000500]) hi.1 (by simpa using hi.2)
    generalize rd _ i = z at hm
    simp only [List.mem_cons, List.not_mem_nil, or_false] at hm
    omega
  · simp only [if_neg c0]
    by_cases c1 : v = 1
    · simp only [if_pos c1]
      obtain ⟨x, q2, e2, hx, hq2⟩ := word_ok hq
      exact ⟨_, q2, fun k hk => by rw [e2 k hk]; rfl, w64_in _, hq2⟩
    · simp only [if_neg c1]
      by_cases c2 : v = 2
      · simp only [if_pos c2]
        obtain ⟨x, q2, e2, hx, hq2⟩ := word_ok hq
        obtain ⟨y, q3, e3, hy, hq3⟩ := below_ok hq2 (n := 60) (by decide) (by decide)
        refine ⟨_, q3, fun k hk => by rw [e2 k hk]; simp only [Option.bind_some]; rw [e3]; simp only [Option.bind_some]; rw [if_pos (by rw [Math.uwrap]; omega)], shr_in _ (w64_in _), hq3⟩
      · simp only [if_neg c2]
        obtain ⟨y, q3, e3, hy, hq3⟩ := below_ok hq (n := 41) (by decide) (by decide)
        rw [e3]
        exact ⟨_, q3, fun _ _ => rfl, w64_in _, hq3⟩

theorem once_ok {l : List Int} {p : Int} (h : St l p) {n : Int} (h1 : 1 < n) (h2 : n ≤ 65536) : ∃ b q, spec_l1Rd_once.f l p n = some (b, q) ∧ St l q := by
  obtain ⟨v, q, e, _, hq⟩ := below_ok h h1 h2
  unfold spec_l1Rd_once.f
  rw [e]
  exact ⟨_, q, rfl, hq⟩

theorem spec_NumAdd_is {a b : Int} (ha : -9223372036854775808 ≤ a ∧ a ≤ 9223372036854775807) (hb : -9223372036854775808 ≤ b ∧ b ≤ 9223372036854775807) :
    spec_NumAdd.f a b = some (Math.addV a b) := by
  unfold spec_NumAdd.f
  rw [if_pos ⟨ha, hb⟩]

theorem addV_in {a b : Int} (ha : -9223372036854775808 ≤ a ∧ a ≤ 9223372036854775807) (hb : -9223372036854775808 ≤ b ∧ b ≤ 9223372036854775807) : -9223372036854775808 ≤ (Math.addV a b).1 ∧ (Math.addV a b).1 ≤ 9223372036854775807 := by
  unfold Math.addV
  split
  · simp
  · split
    · simp
    · simp only; omega
theorem iv_ok {l : List Int} {p : Int} (h : St l p) : ∃ a b q, (∀ k, 10 ≤ k → spec_l1Rd_iv.f k l p = some (a, b, q)) ∧ (-9223372036854775808 ≤ a ∧ a ≤ 9223372036854775807) ∧ (-9223372036854775808 ≤ b ∧ b ≤ 9223372036854775807) ∧ St l q := by
  obtain ⟨a, q, e, ha, hq⟩ := num_ok h
  obtain ⟨c, q2, e2, hc, hq2⟩ := below_ok hq (n := 4) (by decide) (by decide)
  have key : ∀ t : Bool, ∃ b q, (∀ k, 10 ≤ k → spec_l1Rd_iv.j0 k a a t l q2 = some (a, b, q)) ∧ (-9223372036854775808 ≤ b ∧ b ≤ 9223372036854775807) ∧ St l q := by
    intro t
    cases t with
    | true =>
      obtain ⟨i, q3, e3, hi, hq3⟩ := below_ok hq2 (n := 30) (by decide) (by decide)
      by_cases g : (Math.addV a i).1 < a
      · refine ⟨a, q3, fun k hk => ?_, ha, hq3⟩
        obtain ⟨k, rfl⟩ : ∃ m, k = m + 1 := ⟨k - 1, by omega⟩
        simp only [spec_l1Rd_iv.j0, if_true]
        rw [e3]; simp only [Option.bind_some]; rw [spec_NumAdd_is ha (by omega)]; simp only [Option.bind_some]; rw [if_pos g]
      · refine ⟨(Math.addV a i).1, q3, fun k hk => ?_, addV_in ha (by omega), hq3⟩
        obtain ⟨k, rfl⟩ : ∃ m, k = m + 1 := ⟨k - 1, by omega⟩
        simp only [spec_l1Rd_iv.j0, if_true]
        rw [e3]; simp only [Option.bind_some]; rw [spec_NumAdd_is ha (by omega)]; simp only [Option.bind_some]; rw [if_neg g]
    | false =>
      refine ⟨a, q2, fun k hk => ?_, ha, hq2⟩
      obtain ⟨k, rfl⟩ : ∃ m, k = m + 1 := ⟨k - 1, by omega⟩
      simp only [spec_l1Rd_iv.j0]
      rw [if_neg (by decide), if_neg (Int.lt_irrefl a)]
  unfold spec_l1Rd_iv.f
  by_cases c0 : c = 0
  · obtain ⟨b, q3, e3, hb, hq3⟩ := num_ok hq2
    by_cases g : b < a
    · obtain ⟨o, q4, e4, hq4⟩ := once_ok hq3 (n := 12) (by decide) (by decide)
      cases o with
      | true =>
        refine ⟨a, b, q4, fun k hk => ?_, ha, hb, hq4⟩
        rw [e k (by omega)]; simp only [Option.bind_some]; rw [e2]; simp only [Option.bind_some]; rw [if_pos c0, e3 k (by omega)]; simp only [Option.bind_some]; rw [if_pos g, e4]; rfl
      | false =>
        refine ⟨b, a, q4, fun k hk => ?_, hb, ha, hq4⟩
        rw [e k (by omega)]; simp only [Option.bind_some]; rw [e2]; simp only [Option.bind_some]; rw [if_pos c0, e3 k (by omega)]; simp only [Option.bind_some]; rw [if_pos g, e4]; rfl
    · refine ⟨a, b, q3, fun k hk => ?_, ha, hb, hq3⟩
      rw [e k (by omega)]; simp only [Option.bind_some]; rw [e2]; simp only [Option.bind_some]; rw [if_pos c0, e3 k (by omega)]; simp only [Option.bind_some]; rw [if_neg g]
  · by_cases c1 : c = 1
    · obtain ⟨b, q3, e3, hb, hq3⟩ := key (c == 1)
      refine ⟨a, b, q3, fun k hk => ?_, ha, hb, hq3⟩
      rw [e k (by omega)]; simp only [Option.bind_some]; rw [e2]; simp only [Option.bind_some]; rw [if_neg c0, if_pos c1]; exact e3 k hk
    · obtain ⟨b, q3, e3, hb, hq3⟩ := key (c == 2)
      refine ⟨a, b, q3, fun k hk => ?_, ha, hb, hq3⟩
      rw [e k (by omega)]; simp only [Option.bind_some]; rw [e2]; simp only [Option.bind_some]; rw [if_neg c0, if_neg c1]; exact e3 k hk

theorem mn_in {a b : Int} (ha : -9223372036854775808 ≤ a ∧ a ≤ 9223372036854775807) (hb : -9223372036854775808 ≤ b ∧ b ≤ 9223372036854775807) : -9223372036854775808 ≤ mn a b ∧ mn a b ≤ 9223372036854775807 := by
  unfold mn; split <;> omega
theorem mx_in {a b : Int} (ha : -9223372036854775808 ≤ a ∧ a ≤ 9223372036854775807) (hb : -9223372036854775808 ≤ b ∧ b ≤ 9223372036854775807) : -9223372036854775808 ≤ mx a b ∧ mx a b ≤ 9223372036854775807 := by
  unfold mx; split <;> omega
theorem drawIvLeq_ok {l : List Int} (h : ∀ x ∈ l, 0 ≤ x ∧ x ≤ 255) (hn : l.length ≤ 1048576) : ∃ a b c d, (∀ k, 10 ≤ k → spec_DrawIvLeq.f k l = some (a, b, c, d)) ∧ (-9223372036854775808 ≤ a ∧ a ≤ 9223372036854775807) ∧ (-9223372036854775808 ≤ b ∧ b ≤ 9223372036854775807) ∧ (-9223372036854775808 ≤ c ∧ c ≤ 9223372036854775807) ∧ (-9223372036854775808 ≤ d ∧ d ≤ 9223372036854775807) := by
  have h0 : St l 0 := ⟨h, hn, by omega, by omega⟩
  obtain ⟨a, b, q, e, ha, hb, hq⟩ := iv_ok h0
  obtain ⟨o, q2, e2, hq2⟩ := once_ok hq (n := 2) (by decide) (by decide)
  obtain ⟨c, d, q3, e3, hc, hd, hq3⟩ := iv_ok hq2
  unfold spec_DrawIvLeq.f spec_l1Open.f
  cases o with
  | true =>
    refine ⟨a, b, mn a c, mx b d, fun k hk => ?_, ha, hb, mn_in ha hc, mx_in hb hd⟩
    simp only [Option.bind_some]; rw [e k hk]; simp only [Option.bind_some]; rw [e2]; simp only [Option.bind_some, if_true]; rw [e3 k hk]; rfl
  | false =>
    refine ⟨a, b, c, d, fun k hk => ?_, ha, hb, hc, hd⟩
    simp only [Option.bind_some]; rw [e k hk]; simp only [Option.bind_some]; rw [e2]; simp only [Option.bind_some]; rw [if_neg (by decide), e3 k hk]; rfl

theorem drawIvMeet_ok {l : List Int} (h : ∀ x ∈ l, 0 ≤ x ∧ x ≤ 255) (hn : l.length ≤ 1048576) : ∃ a b c d, (∀ k, 10 ≤ k → spec_DrawIvMeet.f k l = some (a, b, c, d)) ∧ (-9223372036854775808 ≤ a ∧ a ≤ 9223372036854775807) ∧ (-9223372036854775808 ≤ b ∧ b ≤ 9223372036854775807) ∧ (-9223372036854775808 ≤ c ∧ c ≤ 9223372036854775807) ∧ (-9223372036854775808 ≤ d ∧ d ≤ 9223372036854775807) := by
  obtain ⟨a, b, c, d, e, r⟩ := drawIvLeq_ok h hn
  exact ⟨a, b, c, d, fun k hk => by unfold spec_DrawIvMeet.f; rw [e k hk]; rfl, r⟩

theorem near_ok {l : List Int} {p : Int} (h : St l p) {lo hi : Int} (h1 : -9223372036854775808 ≤ lo ∧ lo ≤ 9223372036854775807) (h2 : -9223372036854775808 ≤ hi ∧ hi ≤ 9223372036854775807) (h3 : hi - lo < 18446744073709551615) :
    ∃ v q, (∀ k, 10 ≤ k → spec_l1Rd_near.f k l p lo hi = some (v, q)) ∧ (-9223372036854775808 ≤ v ∧ v ≤ 9223372036854775807) ∧ St l q := by
  unfold spec_l1Rd_near.f
  obtain ⟨c, q, e, hc, hq⟩ := below_ok h (n := 8) (by decide) (by decide)
  rw [e]
  simp only [Option.bind_some]
  by_cases c0 : c = 0
  · simp only [if_pos c0]; exact ⟨lo, q, fun _ _ => rfl, h1, hq⟩
  · simp only [if_neg c0]
    by_cases c1 : c = 1
    · simp only [if_pos c1]; exact ⟨hi, q, fun _ _ => rfl, h2, hq⟩
    · simp only [if_neg c1]
      by_cases g : hi < lo
      · simp only [if_pos g]; exact ⟨lo, q, fun _ _ => rfl, h1, hq⟩
      · simp only [if_neg g]
        obtain ⟨x, q2, e2, hx, hq2⟩ := word_ok hq
        have hw : IntKind.u64.wrap (wrap64 ((wrap64 (hi - lo)) + 1)) = hi - lo + 1 := by
          rw [Math.uwrap]; unfold wrap64; omega
        refine ⟨_, q2, fun k hk => ?_, w64_in (lo + (wrap64 (Int.tmod (x / 2) (hi - lo + 1)))), hq2⟩
        rw [e2 k (by omega)]
        simp only [Option.bind_some]
        rw [hw, if_neg (by omega)]

theorem half_bd (x : Int) (h : -9223372036854775808 ≤ x ∧ x ≤ 9223372036854775807) : -4611686018427387904 ≤ Int.tdiv x 2 ∧ Int.tdiv x 2 ≤ 4611686018427387903 := by
  have h2 := Int.mul_tdiv_add_tmod x 2
  have h3 : (Int.tmod x 2).natAbs = x.natAbs % 2 := Int.natAbs_tmod x 2
  have h4 : (Int.tdiv x 2).natAbs = x.natAbs / 2 := Int.natAbs_tdiv x 2
  generalize Int.tdiv x 2 = y at *
  generalize Int.tmod x 2 = z at *
  omega
theorem drawIvHas_ok {l : List Int} (h : ∀ x ∈ l, 0 ≤ x ∧ x ≤ 255) (hn : l.length ≤ 1048576) : ∃ a b n, (∀ k, 11 ≤ k → spec_DrawIvHas.f k l = some (a, b, n)) ∧ (-9223372036854775808 ≤ a ∧ a ≤ 9223372036854775807) ∧ (-9223372036854775808 ≤ b ∧ b ≤ 9223372036854775807) ∧ (-9223372036854775808 ≤ n ∧ n ≤ 9223372036854775807) := by
  have h0 : St l 0 := ⟨h, hn, by omega, by omega⟩
  obtain ⟨a, b, q, e, ha, hb, hq⟩ := iv_ok h0
  obtain ⟨o, q2, e2, hq2⟩ := once_ok hq (n := 3) (by decide) (by decide)
  have key : ∀ t : Bool, ∃ n, (∀ k, 11 ≤ k → spec_DrawIvHas.j0 k t l q2 a b = some (a, b, n)) ∧ (-9223372036854775808 ≤ n ∧ n ≤ 9223372036854775807) := by
    intro t
    cases t with
    | true =>
      obtain ⟨n, q3, e3, hn3, hq3⟩ := num_ok hq2
      refine ⟨n, fun k hk => ?_, hn3⟩
      obtain ⟨k, rfl⟩ : ∃ m, k = m + 1 := ⟨k - 1, by omega⟩
      simp only [spec_DrawIvHas.j0, if_true]
      rw [e3 k (by omega)]; rfl
    | false =>
      have k1 := half_bd a ha
      have k2 := half_bd b hb
      have w1 : wrap64 (Int.tdiv b 2) = Int.tdiv b 2 := Math.w64_id (by omega) (by omega)
      have w2 : wrap64 (Int.tdiv a 2) = Int.tdiv a 2 := Math.w64_id (by omega) (by omega)
      have w3 : wrap64 (Int.tdiv b 2 + Int.tdiv a 2) = Int.tdiv b 2 + Int.tdiv a 2 := Math.w64_id (by omega) (by omega)
      obtain ⟨n, q3, e3, hn3, hq3⟩ := near_ok hq2 (lo := a) (hi := Int.tdiv b 2 + Int.tdiv a 2) ha (by omega) (by omega)
      refine ⟨n, fun k hk => ?_, hn3⟩
      obtain ⟨k, rfl⟩ : ∃ m, k = m + 1 := ⟨k - 1, by omega⟩
      simp only [spec_DrawIvHas.j0]
      rw [if_neg (by decide), w1, w2, w3, e3 k (by omega)]; rfl
  unfold spec_DrawIvHas.f spec_l1Open.f
  cases o with
  | true =>
    obtain ⟨n, e3, hn3⟩ := key true
    refine ⟨a, b, n, fun k hk => ?_, ha, hb, hn3⟩
    simp only [Option.bind_some]; rw [e k (by omega)]; simp only [Option.bind_some]; rw [e2]; simp only [Option.bind_some, if_true]; exact e3 k hk
  | false =>
    obtain ⟨n, e3, hn3⟩ := key (!decide (a ≤ b))
    refine ⟨a, b, n, fun k hk => ?_, ha, hb, hn3⟩
    simp only [Option.bind_some]; rw [e k (by omega)]; simp only [Option.bind_some]; rw [e2]; simp only [Option.bind_some, spec_IvOk.f]; rw [if_neg (by decide)]; exact e3 k hk

/-- What two intervals have in common. -/
def meetV (a b c d : Int) : Int × Int × Bool := if a ≤ b ∧ c ≤ d ∧ mx a c ≤ mn b d then (mx a c, mn b d, true) else (0, 0, false)
theorem spec_IvMeet_is (a b c d : Int) : spec_IvMeet.f a b c d = some (meetV a b c d) := by
  simp only [spec_IvMeet.f, spec_IvOk.f, meetV, Option.bind_some]
  by_cases h0 : a ≤ b <;> by_cases h1 : c ≤ d <;> by_cases h2 : mx a c ≤ mn b d <;> simp [h0, h1, h2]
theorem impl_IvMeet_is (a b c d : Int) : impl_IvMeet.f a b c d = some (meetV a b c d) := by
  simp only [impl_IvMeet.f, impl_areIvs.f, impl_IvOk.f, meetV, Option.bind_some]
  by_cases h0 : a ≤ b <;> by_cases h1 : c ≤ d <;> by_cases h2 : mx a c ≤ mn b d <;> simp [h0, h1, h2]

def leqV (a b c d : Int) : Bool := decide (a ≤ b ∧ c ≤ d ∧ c ≤ a ∧ b ≤ d)
theorem impl_IvLeq_is (a b c d : Int) : impl_IvLeq.f a b c d = some (leqV a b c d) := by
  simp only [impl_IvLeq.f, impl_areIvs.f, impl_IvOk.f, leqV, Option.bind_some]
  by_cases h0 : a ≤ b <;> by_cases h1 : c ≤ d <;> by_cases h2 : c ≤ a <;> simp [h0, h1, h2]

def hasV (a b n : Int) : Bool := decide (a ≤ n ∧ n ≤ b)
theorem spec_IvHas_is (a b n : Int) : spec_IvHas.f a b n = some (hasV a b n) := by
  simp only [spec_IvHas.f, hasV]
  by_cases h0 : a ≤ n <;> simp [h0]
theorem impl_IvHas_is (a b n : Int) : impl_IvHas.f a b n = some (hasV a b n) := by
  simp only [impl_IvHas.f, impl_Interval_has.f, impl_within.f, hasV]
  by_cases h0 : a ≤ n <;> simp [h0]

theorem FnIvMeet (l0 : List Int) (b0 : ∀ x ∈ l0, 0 ≤ x ∧ x ≤ 255) : ∃ k, laws_FnIvMeet.f k l0 = some true := by
  refine ⟨16, ?_⟩
  unfold laws_FnIvMeet.f laws_big.f
  simp only [Option.bind_some]
  by_cases hn : (l0.length : Int) > 1048576
  · rw [if_pos (by simpa using hn)]
  · rw [if_neg (by simpa using hn)]
    obtain ⟨a, b, c, d, e, ha, hb, hc, hd⟩ := drawIvMeet_ok b0 (by omega)
    obtain ⟨a', b', n, e', _, _, hn'⟩ := drawIvHas_ok b0 (by omega)
    rw [e 16 (by omega)]
    simp only [Option.bind_some]
    rw [e' 16 (by omega)]
    simp only [Option.bind_some]
    rw [impl_IvMeet_is, spec_IvMeet_is]
    simp only [Option.bind_some, beq_self_eq_true, Bool.not_true, Bool.or_self, bne_self_eq_false]
    rw [if_neg (by decide), if_neg (by decide)]
    have done : laws_FnIvMeet.j0 16 n (meetV a b c d).2.2 (meetV a b c d).2.2 true a b c d (meetV a b c d).1 (meetV a b c d).2.1 (meetV a b c d).1 (meetV a b c d).2.1 = some true := by
      simp only [laws_FnIvMeet.j0]
      simp
    simp only [spec_IvOk.f, Option.bind_some]
    by_cases g1 : a ≤ b
    · rw [if_pos (by simpa using g1)]
      by_cases g2 : c ≤ d
      · rw [show (!decide (c ≤ d)) = false by simpa using g2]
        simp only [laws_FnIvMeet.j0]
        rw [if_neg (by decide), impl_IvHas_is, impl_IvHas_is]
        simp only [Option.bind_some]
        have comm : meetV c d a b = meetV a b c d := by
          have e1 : mx c a = mx a c := by unfold mx; split <;> split <;> omega
          have e2 : mn d b = mn b d := by unfold mn; split <;> split <;> omega
          unfold meetV
          rw [e1, e2]
          by_cases g3 : mx a c ≤ mn b d
          · rw [if_pos ⟨g2, g1, g3⟩, if_pos ⟨g1, g2, g3⟩]
          · rw [if_neg (fun h => g3 h.2.2), if_neg (fun h => g3 h.2.2)]
        have key : ∀ t : Bool, t = (hasV a b n && hasV c d n) → laws_FnIvMeet.j1 15 n (meetV a b c d).2.2 t a b c d (meetV a b c d).1 (meetV a b c d).2.1 = some true := by
          intro t ht
          simp only [laws_FnIvMeet.j1]
          rw [impl_IvMeet_is, comm]
          simp only [Option.bind_some]
          by_cases g3 : mx a c ≤ mn b d
          · have hm : meetV a b c d = (mx a c, mn b d, true) := if_pos ⟨g1, g2, g3⟩
            rw [hm]
            simp only
            rw [if_pos trivial, impl_IvHas_is, impl_IvHas_is, spec_IvHas_is, impl_IvLeq_is, impl_IvLeq_is]
            have h1 : (t == hasV (mx a c) (mn b d) n) = true := by
              rw [ht]
              unfold hasV
              rw [beq_iff_eq, Bool.eq_iff_iff]
              simp only [Bool.and_eq_true, decide_eq_true_eq]
              unfold mx mn
              split <;> split <;> omega
            have h2 : leqV (mx a c) (mn b d) a b = true := by unfold leqV; simp only [decide_eq_true_eq]; unfold mx mn at *; split <;> split <;> simp_all <;> omega
            have h3 : leqV (mx a c) (mn b d) c d = true := by unfold leqV; simp only [decide_eq_true_eq]; unfold mx mn at *; split <;> split <;> simp_all <;> omega
            simp only [Option.bind_some, h1, h2, h3, beq_self_eq_true, Bool.and_self, if_true]
          · have hm : meetV a b c d = (0, 0, false) := if_neg (fun h => g3 h.2.2)
            rw [hm]
            simp only
            rw [if_neg (by decide), impl_IvHas_is, spec_IvHas_is]
            have h1 : (t == false) = true := by
              rw [ht]
              unfold hasV
              rw [beq_iff_eq, Bool.eq_false_iff]
              simp only [ne_eq, Bool.and_eq_true, decide_eq_true_eq]
              unfold mx mn at g3
              split at g3 <;> split at g3 <;> omega
            simp only [Option.bind_some, h1, beq_self_eq_true, Bool.and_self, if_true]
        by_cases t1 : hasV a b n = true
        · rw [if_pos t1]
          exact key _ (by rw [t1, Bool.true_and])
        · rw [if_neg t1]
          exact key _ (by rw [Bool.eq_false_iff.mpr t1, Bool.false_and])
      · rw [show (!decide (c ≤ d)) = true by simpa using g2]
        exact done
    · rw [if_neg (by simpa using g1)]
      exact done

end Go.Proofs.Ytblgpjllgadibaa.PureFnIvMeet
