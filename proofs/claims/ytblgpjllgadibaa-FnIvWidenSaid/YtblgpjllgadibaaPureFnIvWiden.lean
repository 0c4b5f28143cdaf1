/- What is widened has all of both, and widened again by what it has stays; its ends are those of the first one, steps, or the last numbers, for every code: the law's function returns true. Conditions: none. -/
import Derived.Test.YtblgpjllgadibaaQx2
import Derived.Test.YtblgpjllgadibaaQx3
import Derived.Test.YtblgpjllgadibaaQx4
import Derived.Test.YtblgpjllgadibaaQx5
import Derived.Test.YtblgpjllgadibaaQx6
import Derived.Test.YtblgpjllgadibaaQx7
import Derived.Test.YtblgpjllgadibaaQx8
import Derived.Test.YtblgpjllgadibaaQx9
import Derived.Test.YtblgpjllgadibaaQx10
import Derived.Test.YtblgpjllgadibaaQx11
import Derived.Test.YtblgpjllgadibaaQx12
import Derived.Test.YtblgpjllgadibaaQx22
import Derived.Test.YtblgpjllgadibaaQx23
import Derived.Test.YtblgpjllgadibaaQx24
import Derived.Test.YtblgpjllgadibaaQx25
import Derived.Test.YtblgpjllgadibaaQx26
import Derived.Test.YtblgpjllgadibaaMath
namespace Go.Proofs.Ytblgpjllgadibaa.PureFnIvWiden
open Go.RowKit Go.Proofs.Ytblgpjllgadibaa Go.Proofs.Ytblgpjllgadibaa.Q Go.Proofs.YtblgpjllgadibaaW.PrintWords Go.Proofs.YtblgpjllgadibaaW.PrintLast
set_option linter.unusedVariables false
set_option linter.unusedSimpArgs false

/-- A code of bytes, and a place in it. -/
def St (l : List Int) (p : Int) : Prop := (∀ x ∈ l, 0 ≤ x ∧ x ≤ 255) ∧ l.length ≤ 1048576 ∧ 0 ≤ p ∧ p ≤ l.length
theorem rd_mem {xs : List Int} {i : Int} (h0 : 0 ≤ i) (h1 : i < xs.length) : rd xs i ∈ xs := by
  unfold rd
  rw [List.getD_eq_getElem?_getD, List.getElem?_eq_getElem (by omega), Option.getD_some]
  exact List.getElem_mem _
theorem w64_in (x : Int) : -9223372036854775808 ≤ wrap64 x ∧ wrap64 x ≤ 9223372036854775807 := by
  unfold wrap64; omega
theorem next_ok {l : List Int} {p : Int} (h : St l p) : ∃ v q, spec_l1Rd_next.f l p = some (v, q) ∧ (0 ≤ v ∧ v ≤ 255) ∧ St l q := by
  obtain ⟨hb, hn, h0, h1⟩ := h
  unfold spec_l1Rd_next.f
  by_cases c : p ≥ (l.length : Int)
  · rw [if_pos c]; exact ⟨0, p, rfl, by omega, hb, hn, h0, h1⟩
  · have e1 : wrap64 (p + 1) = p + 1 := Math.w64_id (by omega) (by omega)
    have e2 : wrap64 (p + 1 - 1) = p := by rw [Math.w64_id (by omega) (by omega)]; omega
    have hv := hb _ (rd_mem h0 (show p < (l.length : Int) by omega))
    rw [if_neg c, e1, e2, if_pos h0, if_pos (by omega), Math.w64_id (by omega) (by omega)]
    exact ⟨rd l p, p + 1, rfl, hv, hb, hn, by omega, by omega⟩
theorem below_ok {l : List Int} {p : Int} (h : St l p) {n : Int} (h1 : 1 < n) (h2 : n ≤ 65536) : ∃ v q, spec_l1Rd_below.f l p n = some (v, q) ∧ (0 ≤ v ∧ v < n) ∧ St l q := by
  unfold spec_l1Rd_below.f
  rw [if_neg (by omega)]
  by_cases c : n ≤ 256
  · obtain ⟨v, q, e, hv, hq⟩ := next_ok h
    rw [if_pos c, e]
    simp only [Option.bind_some]
    rw [if_neg (by omega), Int.tmod_eq_emod_of_nonneg hv.1]
    exact ⟨_, q, rfl, ⟨Int.emod_nonneg _ (by omega), Int.emod_lt_of_pos _ (by omega)⟩, hq⟩
  · obtain ⟨v, q, e, hv, hq⟩ := next_ok h
    obtain ⟨v2, q2, e2, hv2, hq2⟩ := next_ok hq
    rw [if_neg c, e]
    simp only [Option.bind_some]
    rw [e2]
    simp only [Option.bind_some]
    rw [if_neg (by omega), Math.w64_id (x := v * 256) (by omega) (by omega), Math.w64_id (by omega) (by omega), Int.tmod_eq_emod_of_nonneg (by omega)]
    exact ⟨_, q2, rfl, ⟨Int.emod_nonneg _ (by omega), Int.emod_lt_of_pos _ (by omega)⟩, hq2⟩

theorem or_u64 (x y : Int) : 0 ≤ Go.bits .or .u64 x y ∧ Go.bits .or .u64 x y < 18446744073709551616 := by
  have := bounds_u64 (wf_bits .or .u64 x y)
  omega
theorem word_loop {l : List Int} (d : Nat) : ∀ (k : Nat) (x i p : Int), St l p → (0 ≤ x ∧ x < 18446744073709551616) → i + d = 8 → 0 ≤ i → d < k →
    ∃ v q, spec_l1Rd_word.l0 k x i l p = some (v, q) ∧ (0 ≤ v ∧ v < 18446744073709551616) ∧ St l q ∧ ∀ k', d < k' → spec_l1Rd_word.l0 k' x i l p = some (v, q) := by
  induction d with
  | zero =>
    intro k x i p h hx hi h0 hk
    have key : ∀ k', 0 < k' → spec_l1Rd_word.l0 k' x i l p = some (x, p) := by
      intro k' hk'
      obtain ⟨k', rfl⟩ : ∃ m, k' = m + 1 := ⟨k' - 1, by omega⟩
      simp only [spec_l1Rd_word.l0]; rw [if_neg (by omega)]
    exact ⟨x, p, key k hk, hx, h, key⟩
  | succ d ih =>
    intro k x i p h hx hi h0 hk
    obtain ⟨v, q, e, hv, hq⟩ := next_ok h
    obtain ⟨r, q2, _, hr, hq2, all⟩ := ih (d + 1) (Go.bits .or .u64 (IntKind.u64.wrap (x * 256)) (IntKind.u64.wrap v)) (i + 1) q hq (or_u64 _ _) (by omega) (by omega) (by omega)
    have key : ∀ k', d + 1 < k' → spec_l1Rd_word.l0 k' x i l p = some (r, q2) := by
      intro k' hk'
      obtain ⟨k', rfl⟩ : ∃ m, k' = m + 1 := ⟨k' - 1, by omega⟩
      simp only [spec_l1Rd_word.l0]
      rw [if_pos (by omega), e]
      simp only [Option.bind_some]
      rw [Math.w64_id (by omega) (by omega)]
      exact all k' (by omega)
    exact ⟨r, q2, key k hk, hr, hq2, key⟩
theorem word_ok {l : List Int} {p : Int} (h : St l p) : ∃ v q, (∀ k, 9 ≤ k → spec_l1Rd_word.f k l p = some (v, q)) ∧ (0 ≤ v ∧ v < 18446744073709551616) ∧ St l q := by
  obtain ⟨v, q, _, hv, hq, all⟩ := word_loop 8 9 0 0 p h (by omega) (by omega) (by omega) (by omega)
  exact ⟨v, q, fun k hk => all k (by omega), hv, hq⟩

theorem shr_in {x : Int} (y : Int) (h : -9223372036854775808 ≤ x ∧ x ≤ 9223372036854775807) : -9223372036854775808 ≤ shr .i64 x y ∧ shr .i64 x y ≤ 9223372036854775807 := by
  unfold shr
  have hp : (0 : Int) < 2 ^ min y.toNat IntKind.i64.bits := Int.pow_pos (by decide)
  generalize (2 : Int) ^ min y.toNat IntKind.i64.bits = z at hp
  constructor
  · rw [Int.le_ediv_iff_mul_le hp]
    by_cases h0 : (0 : Int) ≤ x
    · have := Int.mul_nonneg (show (0 : Int) ≤ 9223372036854775808 by decide) (Int.le_of_lt hp)
      have e : -9223372036854775808 * z = -(9223372036854775808 * z) := Int.neg_mul _ _
      omega
    · have : (9223372036854775808 : Int) * 1 ≤ 9223372036854775808 * z := Int.mul_le_mul_of_nonneg_left (by omega) (by omega)
      have e : -9223372036854775808 * z = -(9223372036854775808 * z) := Int.neg_mul _ _
      omega
  · by_cases h0 : (0 : Int) ≤ x
    · have := Int.ediv_le_self z h0
      omega
    · have : x / z < 0 := Int.ediv_lt_of_lt_mul hp (by omega)
      omega
theorem num_ok {l : List Int} {p : Int} (h : St l p) : ∃ v q, (∀ k, 9 ≤ k → spec_l1Rd_num.f k l p = some (v, q)) ∧ (-9223372036854775808 ≤ v ∧ v ≤ 9223372036854775807) ∧ St l q := by
  unfold spec_l1Rd_num.f
  obtain ⟨v, q, e, hv, hq⟩ := below_ok h (n := 6) (by decide) (by decide)
  rw [e]
  simp only [Option.bind_some]
  by_cases c0 : v = 0
  · simp only [if_pos c0]
    obtain ⟨i, q2, e2, hi, hq2⟩ := below_ok hq (n := 10) (by decide) (by decide)
    rw [e2]
    simp only [Option.bind_some]
    rw [if_pos hi.1, if_pos (by simpa using hi.2)]
    refine ⟨_, q2, fun _ _ => rfl, ?_, hq2⟩
    have hm := rd_mem (xs := [(-9223372036854775808), (-9223372036854775807), 9223372036854775807, 9223372036854775806, (-1), 0, 1, 4294967296, (-4294967296), 3037000500]) hi.1 (by simpa using hi.2)
    generalize rd _ i = z at hm
    simp only [List.mem_cons, List.not_mem_nil, or_false] at hm
    omega
  · simp only [if_neg c0]
    by_cases c1 : v = 1
    · simp only [if_pos c1]
      obtain ⟨x, q2, e2, hx, hq2⟩ := word_ok hq
      exact ⟨_, q2, fun k hk => by rw [e2 k hk]; rfl, w64_in _, hq2⟩
    · simp only [if_neg c1]
      by_cases c2 : v = 2
      · simp only [if_pos c2]
        obtain ⟨x, q2, e2, hx, hq2⟩ := word_ok hq
        obtain ⟨y, q3, e3, hy, hq3⟩ := below_ok hq2 (n := 60) (by decide) (by decide)
        refine ⟨_, q3, fun k hk => by rw [e2 k hk]; simp only [Option.bind_some]; rw [e3]; simp only [Option.bind_some]; rw [if_pos (by rw [Math.uwrap]; omega)], shr_in _ (w64_in _), hq3⟩
      · simp only [if_neg c2]
        obtain ⟨y, q3, e3, hy, hq3⟩ := below_ok hq (n := 41) (by decide) (by decide)
        rw [e3]
        exact ⟨_, q3, fun _ _ => rfl, w64_in _, hq3⟩

theorem once_ok {l : List Int} {p : Int} (h : St l p) {n : Int} (h1 : 1 < n) (h2 : n ≤ 65536) : ∃ b q, spec_l1Rd_once.f l p n = some (b, q) ∧ St l q := by
  obtain ⟨v, q, e, _, hq⟩ := below_ok h h1 h2
  unfold spec_l1Rd_once.f
  rw [e]
  exact ⟨_, q, rfl, hq⟩

theorem spec_NumAdd_is {a b : Int} (ha : -9223372036854775808 ≤ a ∧ a ≤ 9223372036854775807) (hb : -9223372036854775808 ≤ b ∧ b ≤ 9223372036854775807) :
    spec_NumAdd.f a b = some (Math.addV a b) := by
  unfold spec_NumAdd.f
  rw [if_pos ⟨ha, hb⟩]

theorem addV_in {a b : Int} (ha : -9223372036854775808 ≤ a ∧ a ≤ 9223372036854775807) (hb : -9223372036854775808 ≤ b ∧ b ≤ 9223372036854775807) : -9223372036854775808 ≤ (Math.addV a b).1 ∧ (Math.addV a b).1 ≤ 9223372036854775807 := by
  unfold Math.addV
  split
  · simp
  · split
    · simp
    · simp only; omega
theorem iv_ok {l : List Int} {p : Int} (h : St l p) : ∃ a b q, (∀ k, 10 ≤ k → spec_l1Rd_iv.f k l p = some (a, b, q)) ∧ (-9223372036854775808 ≤ a ∧ a ≤ 9223372036854775807) ∧ (-9223372036854775808 ≤ b ∧ b ≤ 9223372036854775807) ∧ St l q := by
  obtain ⟨a, q, e, ha, hq⟩ := num_ok h
  obtain ⟨c, q2, e2, hc, hq2⟩ := below_ok hq (n := 4) (by decide) (by decide)
  have key : ∀ t : Bool, ∃ b q, (∀ k, 10 ≤ k → spec_l1Rd_iv.j0 k a a t l q2 = some (a, b, q)) ∧ (-9223372036854775808 ≤ b ∧ b ≤ 9223372036854775807) ∧ St l q := by
    intro t
    cases t with
    | true =>
      obtain ⟨i, q3, e3, hi, hq3⟩ := below_ok hq2 (n := 30) (by decide) (by decide)
      by_cases g : (Math.addV a i).1 < a
      · refine ⟨a, q3, fun k hk => ?_, ha, hq3⟩
        obtain ⟨k, rfl⟩ : ∃ m, k = m + 1 := ⟨k - 1, by omega⟩
        simp only [spec_l1Rd_iv.j0, if_true]
        rw [e3]; simp only [Option.bind_some]; rw [spec_NumAdd_is ha (by omega)]; simp only [Option.bind_some]; rw [if_pos g]
      · refine ⟨(Math.addV a i).1, q3, fun k hk => ?_, addV_in ha (by omega), hq3⟩
        obtain ⟨k, rfl⟩ : ∃ m, k = m + 1 := ⟨k - 1, by omega⟩
        simp only [spec_l1Rd_iv.j0, if_true]
        rw [e3]; simp only [Option.bind_some]; rw [spec_NumAdd_is ha (by omega)]; simp only [Option.bind_some]; rw [if_neg g]
    | false =>
      refine ⟨a, q2, fun k hk => ?_, ha, hq2⟩
      obtain ⟨k, rfl⟩ : ∃ m, k = m + 1 := ⟨k - 1, by omega⟩
      simp only [spec_l1Rd_iv.j0]
      rw [if_neg (by decide), if_neg (Int.lt_irrefl a)]
  unfold spec_l1Rd_iv.f
  by_cases c0 : c = 0
  · obtain ⟨b, q3, e3, hb, hq3⟩ := num_ok hq2
    by_cases g : b < a
    · obtain ⟨o, q4, e4, hq4⟩ := once_ok hq3 (n := 12) (by decide) (by decide)
      cases o with
      | true =>
        refine ⟨a, b, q4, fun k hk => ?_, ha, hb, hq4⟩
        rw [e k (by omega)]; simp only [Option.bind_some]; rw [e2]; simp only [Option.bind_some]; rw [if_pos c0, e3 k (by omega)]; simp only [Option.bind_some]; rw [if_pos g, e4]; rfl
      | false =>
        refine ⟨b, a, q4, fun k hk => ?_, hb, ha, hq4⟩
        rw [e k (by omega)]; simp only [Option.bind_some]; rw [e2]; simp only [Option.bind_some]; rw [if_pos c0, e3 k (by omega)]; simp only [Option.bind_some]; rw [if_pos g, e4]; rfl
    · refine ⟨a, b, q3, fun k hk => ?_, ha, hb, hq3⟩
      rw [e k (by omega)]; simp only [Option.bind_some]; rw [e2]; simp only [Option.bind_some]; rw [if_pos c0, e3 k (by omega)]; simp only [Option.bind_some]; rw [if_neg g]
  · by_cases c1 : c = 1
    · obtain ⟨b, q3, e3, hb, hq3⟩ := key (c == 1)
      refine ⟨a, b, q3, fun k hk => ?_, ha, hb, hq3⟩
      rw [e k (by omega)]; simp only [Option.bind_some]; rw [e2]; simp only [Option.bind_some]; rw [if_neg c0, if_pos c1]; exact e3 k hk
    · obtain ⟨b, q3, e3, hb, hq3⟩ := key (c == 2)
      refine ⟨a, b, q3, fun k hk => ?_, ha, hb, hq3⟩
      rw [e k (by omega)]; simp only [Option.bind_some]; rw [e2]; simp only [Option.bind_some]; rw [if_neg c0, if_neg c1]; exact e3 k hk

theorem steps_loop {l : List Int} (d : Nat) : ∀ (acc : List Int) (i p : Int), St l p → i = d → acc.length + d ≤ 7 → (∀ x ∈ acc, -9223372036854775808 ≤ x ∧ x ≤ 9223372036854775807) →
    ∃ r q, (∀ k, 10 + d ≤ k → spec_l1Rd_steps.l0 k acc i l p = some (r, q)) ∧ (r.length ≤ 101 ∧ ∀ x ∈ r, -9223372036854775808 ≤ x ∧ x ≤ 9223372036854775807) ∧ St l q := by
  induction d with
  | zero =>
    intro acc i p h hi hl ha
    obtain ⟨o, q, e, hq⟩ := once_ok h (n := 40) (by decide) (by decide)
    cases o with
    | true =>
      obtain ⟨j, q2, e2, hj, hq2⟩ := below_ok hq (n := 2) (by decide) (by decide)
      have w : wrap64 (100 + j) = 100 + j := Math.w64_id (by omega) (by omega)
      refine ⟨List.replicate (100 + j).toNat 0, q2, fun k hk => ?_, ⟨by rw [List.length_replicate]; omega, fun x hx => by rw [List.eq_of_mem_replicate hx]; omega⟩, hq2⟩
      obtain ⟨k, rfl⟩ : ∃ m, k = m + 1 := ⟨k - 1, by omega⟩
      simp only [spec_l1Rd_steps.l0]
      rw [if_neg (by omega), e]; simp only [Option.bind_some, if_true]; rw [e2]; simp only [Option.bind_some]; rw [w, if_pos (by omega), if_pos (by omega)]
    | false =>
      refine ⟨acc, q, fun k hk => ?_, ⟨by omega, ha⟩, hq⟩
      obtain ⟨k, rfl⟩ : ∃ m, k = m + 1 := ⟨k - 1, by omega⟩
      simp only [spec_l1Rd_steps.l0]
      rw [if_neg (by omega), e]; rfl
  | succ d ih =>
    intro acc i p h hi hl ha
    obtain ⟨a, q, e, hb, hq⟩ := num_ok h
    obtain ⟨r, q2, e2, hr, hq2⟩ := ih (acc ++ [a]) (i - 1) q hq (by omega) (by rw [List.length_append]; simp; omega) (by
      intro x hx
      rcases List.mem_append.mp hx with hx | hx
      · exact ha x hx
      · rw [List.mem_singleton.mp hx]; exact hb)
    refine ⟨r, q2, fun k hk => ?_, hr, hq2⟩
    obtain ⟨k, rfl⟩ : ∃ m, k = m + 1 := ⟨k - 1, by omega⟩
    simp only [spec_l1Rd_steps.l0]
    rw [if_pos (by omega), e k (by omega)]; simp only [Option.bind_some]; rw [if_pos (by omega), Math.w64_id (by omega) (by omega)]
    exact e2 k (by omega)
theorem steps_ok {l : List Int} {p : Int} (h : St l p) : ∃ r q, (∀ k, 20 ≤ k → spec_l1Rd_steps.f k l p = some (r, q)) ∧ (r.length ≤ 101 ∧ ∀ x ∈ r, -9223372036854775808 ≤ x ∧ x ≤ 9223372036854775807) ∧ St l q := by
  obtain ⟨i, q, e, hi, hq⟩ := below_ok h (n := 7) (by decide) (by decide)
  obtain ⟨r, q2, e2, hr, hq2⟩ := steps_loop i.toNat [] i q hq (by omega) (by simp; omega) (by simp)
  refine ⟨r, q2, fun k hk => ?_, hr, hq2⟩
  unfold spec_l1Rd_steps.f
  rw [e]; exact e2 k (by omega)
theorem drawIvWiden_ok {l : List Int} (h : ∀ x ∈ l, 0 ≤ x ∧ x ≤ 255) (hn : l.length ≤ 1048576) : ∃ a b c d r, (∀ k, 20 ≤ k → spec_DrawIvWiden.f k l = some (a, b, c, d, r)) ∧ (-9223372036854775808 ≤ a ∧ a ≤ 9223372036854775807) ∧ (-9223372036854775808 ≤ b ∧ b ≤ 9223372036854775807) ∧ (-9223372036854775808 ≤ c ∧ c ≤ 9223372036854775807) ∧ (-9223372036854775808 ≤ d ∧ d ≤ 9223372036854775807) ∧ r.length ≤ 101 ∧ ∀ x ∈ r, -9223372036854775808 ≤ x ∧ x ≤ 9223372036854775807 := by
  have h0 : St l 0 := ⟨h, hn, by omega, by omega⟩
  obtain ⟨a, b, q, e, ha, hb, hq⟩ := iv_ok h0
  obtain ⟨c, d, q2, e2, hc, hd, hq2⟩ := iv_ok hq
  obtain ⟨r, q3, e3, hr, hq3⟩ := steps_ok hq2
  refine ⟨a, b, c, d, r, fun k hk => ?_, ha, hb, hc, hd, hr⟩
  unfold spec_DrawIvWiden.f spec_l1Open.f
  simp only [Option.bind_some]; rw [e k (by omega)]; simp only [Option.bind_some]; rw [e2 k (by omega)]; simp only [Option.bind_some]; rw [e3 k hk]; rfl

/-- The greatest of some steps that are not above an end; the least of those that are not below one. -/
def lowF (bl : Int) (acc : Int) : List Int → Int
  | [] => acc
  | x :: xs => lowF bl (if x ≤ bl then mx acc x else acc) xs
def highF (bh : Int) (acc : Int) : List Int → Int
  | [] => acc
  | x :: xs => highF bh (if x ≥ bh then mn acc x else acc) xs
def widenV (a b c d : Int) (l : List Int) : Int × Int :=
  if a ≤ b ∧ c ≤ d ∧ l.length ≤ 100 then (if c < a then lowF c (-9223372036854775808) l else a, if d > b then highF d 9223372036854775807 l else b) else (0, 0)
theorem rd_drop (l : List Int) (i : Int) (h0 : 0 ≤ i) (h1 : i < l.length) : l.drop i.toNat = rd l i :: l.drop (i + 1).toNat := by
  unfold rd
  rw [List.drop_eq_getElem_cons (show i.toNat < l.length by omega), List.getD_eq_getElem?_getD, List.getElem?_eq_getElem (by omega), Option.getD_some, show (i + 1).toNat = i.toNat + 1 by omega]
theorem spec_l1 (l : List Int) (hn : l.length ≤ 100) (bl bh lo : Int) (d : Nat) : ∀ (k : Nat) (i hi : Int), 0 ≤ i → i ≤ l.length → (l.length : Int) - i = d → d < k →
    spec_IvWiden.l1 k l i bl bh lo hi = some (lo, highF bh hi (l.drop i.toNat)) := by
  induction d with
  | zero =>
    intro k i hi h0 h1 hd hk
    obtain ⟨k, rfl⟩ : ∃ m, k = m + 1 := ⟨k - 1, by omega⟩
    simp only [spec_IvWiden.l1]
    rw [if_neg (by omega), List.drop_eq_nil_of_le (by omega)]; rfl
  | succ d ih =>
    intro k i hi h0 h1 hd hk
    obtain ⟨k, rfl⟩ : ∃ m, k = m + 1 := ⟨k - 1, by omega⟩
    simp only [spec_IvWiden.l1]
    rw [if_pos (by omega), if_pos h0, Math.w64_id (by omega) (by omega), ih k (i + 1) _ (by omega) (by omega) (by omega) (by omega), ih k (i + 1) _ (by omega) (by omega) (by omega) (by omega), rd_drop l i h0 (by omega)]
    simp only [highF]
    split <;> rfl
theorem spec_l0 (l : List Int) (hn : l.length ≤ 100) (al ah bl bh hi : Int) (d : Nat) : ∀ (k : Nat) (i lo : Int), 0 ≤ i → i ≤ l.length → (l.length : Int) - i = d → d + 102 < k →
    spec_IvWiden.l0 k l i al ah bl bh lo hi = some (lowF bl lo (l.drop i.toNat), if bh > ah then highF bh 9223372036854775807 l else hi) := by
  induction d with
  | zero =>
    intro k i lo h0 h1 hd hk
    obtain ⟨k, rfl⟩ : ∃ m, k = m + 2 := ⟨k - 2, by omega⟩
    simp only [spec_IvWiden.l0]
    rw [if_neg (by omega), List.drop_eq_nil_of_le (by omega)]
    simp only [spec_IvWiden.j2, lowF]
    split
    · rw [spec_l1 l hn bl bh lo l.length k 0 _ (by omega) (by omega) (by omega) (by omega)]; rfl
    · rfl
  | succ d ih =>
    intro k i lo h0 h1 hd hk
    obtain ⟨k, rfl⟩ : ∃ m, k = m + 1 := ⟨k - 1, by omega⟩
    simp only [spec_IvWiden.l0]
    rw [if_pos (by omega), if_pos h0, Math.w64_id (by omega) (by omega), ih k (i + 1) _ (by omega) (by omega) (by omega) (by omega), ih k (i + 1) _ (by omega) (by omega) (by omega) (by omega), rd_drop l i h0 (by omega)]
    simp only [lowF]
    split <;> rfl
theorem spec_IvWiden_is (k : Nat) (hk : 210 ≤ k) (a b c d : Int) (l : List Int) : spec_IvWiden.f k a b c d l = some (widenV a b c d l) := by
  obtain ⟨k, rfl⟩ : ∃ m, k = m + 2 := ⟨k - 2, by omega⟩
  unfold spec_IvWiden.f spec_IvOk.f
  simp only [Option.bind_some, decide_eq_true_eq, spec_IvWiden.j0, if_true]
  by_cases h0 : a ≤ b
  · by_cases h1 : c ≤ d
    · by_cases h2 : l.length ≤ 100
      · have h3 : ¬ ((l.length : Int) > 100) := by omega
        rw [if_pos h0, if_pos h1, if_neg h3, show widenV a b c d l = (if c < a then lowF c (-9223372036854775808) l else a, if d > b then highF d 9223372036854775807 l else b) from if_pos ⟨h0, h1, h2⟩]
        by_cases h4 : c < a
        · rw [if_pos h4, if_pos h4, spec_l0 l h2 a b c d b l.length (k + 1) 0 _ (by omega) (by omega) (by omega) (by omega)]; rfl
        · rw [if_neg h4, if_neg h4]
          simp only [spec_IvWiden.j2]
          split
          · rw [spec_l1 l h2 c d a l.length k 0 _ (by omega) (by omega) (by omega) (by omega)]; rfl
          · rfl
      · have h3 : (l.length : Int) > 100 := by omega
        rw [if_pos h0, if_pos h1, if_pos h3, show widenV a b c d l = (0, 0) from if_neg (fun g => h2 g.2.2)]
    · rw [if_pos h0, if_neg h1, show widenV a b c d l = (0, 0) from if_neg (fun g => h1 g.2.1)]
  · rw [if_neg h0, show widenV a b c d l = (0, 0) from if_neg (fun g => h0 g.1)]
theorem impl_l1 (l : List Int) (hn : l.length ≤ 100) (bl bh lo : Int) (d : Nat) : ∀ (k : Nat) (i hi : Int), 0 ≤ i → i ≤ l.length → (l.length : Int) - i = d → d < k →
    impl_IvWiden.l1 k l (l.length : Int) i bl bh lo hi = some (lo, highF bh hi (l.drop i.toNat)) := by
  induction d with
  | zero =>
    intro k i hi h0 h1 hd hk
    obtain ⟨k, rfl⟩ : ∃ m, k = m + 1 := ⟨k - 1, by omega⟩
    simp only [impl_IvWiden.l1]
    rw [if_neg (by omega), List.drop_eq_nil_of_le (by omega)]; rfl
  | succ d ih =>
    intro k i hi h0 h1 hd hk
    obtain ⟨k, rfl⟩ : ∃ m, k = m + 1 := ⟨k - 1, by omega⟩
    simp only [impl_IvWiden.l1]
    rw [if_pos (by omega), if_pos h0, if_pos (by omega), Math.w64_id (by omega) (by omega), ih k (i + 1) _ (by omega) (by omega) (by omega) (by omega), ih k (i + 1) _ (by omega) (by omega) (by omega) (by omega), rd_drop l i h0 (by omega)]
    simp only [highF]
    split <;> rfl
theorem impl_l0 (l : List Int) (hn : l.length ≤ 100) (al ah bl bh hi : Int) (d : Nat) : ∀ (k : Nat) (i lo : Int), 0 ≤ i → i ≤ l.length → (l.length : Int) - i = d → d + 102 < k →
    impl_IvWiden.l0 k l l (l.length : Int) i al ah bl bh lo hi = some (lowF bl lo (l.drop i.toNat), if bh > ah then highF bh 9223372036854775807 l else hi) := by
  induction d with
  | zero =>
    intro k i lo h0 h1 hd hk
    obtain ⟨k, rfl⟩ : ∃ m, k = m + 2 := ⟨k - 2, by omega⟩
    simp only [impl_IvWiden.l0]
    rw [if_neg (by omega), List.drop_eq_nil_of_le (by omega)]
    simp only [impl_IvWiden.j2, lowF]
    split
    · rw [impl_l1 l hn bl bh lo l.length k 0 _ (by omega) (by omega) (by omega) (by omega)]; rfl
    · rfl
  | succ d ih =>
    intro k i lo h0 h1 hd hk
    obtain ⟨k, rfl⟩ : ∃ m, k = m + 1 := ⟨k - 1, by omega⟩
    simp only [impl_IvWiden.l0]
    rw [if_pos (by omega), if_pos h0, if_pos (by omega), Math.w64_id (by omega) (by omega), ih k (i + 1) _ (by omega) (by omega) (by omega) (by omega), ih k (i + 1) _ (by omega) (by omega) (by omega) (by omega), rd_drop l i h0 (by omega)]
    simp only [lowF]
    split <;> rfl
theorem impl_IvWiden_is (k : Nat) (hk : 210 ≤ k) (a b c d : Int) (l : List Int) : impl_IvWiden.f k a b c d l = some (widenV a b c d l) := by
  obtain ⟨k, rfl⟩ : ∃ m, k = m + 2 := ⟨k - 2, by omega⟩
  unfold impl_IvWiden.f impl_areIvs.f impl_IvOk.f
  simp only [Option.bind_some, decide_eq_true_eq, impl_IvWiden.j0]
  by_cases h0 : a ≤ b
  · by_cases h1 : c ≤ d
    · by_cases h2 : l.length ≤ 100
      · have h3 : ¬ ((l.length : Int) > 100) := by omega
        rw [if_pos h0, Option.bind_some, if_pos (by simpa using h1), if_neg h3, show widenV a b c d l = (if c < a then lowF c (-9223372036854775808) l else a, if d > b then highF d 9223372036854775807 l else b) from if_pos ⟨h0, h1, h2⟩]
        by_cases h4 : c < a
        · rw [if_pos h4, if_pos h4, impl_l0 l h2 a b c d b l.length (k + 1) 0 _ (by omega) (by omega) (by omega) (by omega)]; rfl
        · rw [if_neg h4, if_neg h4]
          simp only [impl_IvWiden.j2]
          split
          · rw [impl_l1 l h2 c d a l.length k 0 _ (by omega) (by omega) (by omega) (by omega)]; rfl
          · rfl
      · have h3 : (l.length : Int) > 100 := by omega
        rw [if_pos h0, Option.bind_some, if_pos (by simpa using h1), if_pos h3, show widenV a b c d l = (0, 0) from if_neg (fun g => h2 g.2.2)]
    · rw [if_pos h0, Option.bind_some, if_neg (by simpa using h1), show widenV a b c d l = (0, 0) from if_neg (fun g => h1 g.2.1)]; simp
  · rw [if_neg h0, Option.bind_some, if_neg (by simp), show widenV a b c d l = (0, 0) from if_neg (fun g => h0 g.1)]; simp

def leqV (a b c d : Int) : Bool := decide (a ≤ b ∧ c ≤ d ∧ c ≤ a ∧ b ≤ d)
theorem impl_IvLeq_is (a b c d : Int) : impl_IvLeq.f a b c d = some (leqV a b c d) := by
  simp only [impl_IvLeq.f, impl_areIvs.f, impl_IvOk.f, leqV, Option.bind_some]
  by_cases h0 : a ≤ b <;> by_cases h1 : c ≤ d <;> by_cases h2 : c ≤ a <;> simp [h0, h1, h2]

theorem lowF_in (c : Int) (l : List Int) : ∀ acc, acc ≤ c → (lowF c acc l ≤ c ∧ acc ≤ lowF c acc l ∧ (lowF c acc l = acc ∨ lowF c acc l ∈ l)) := by
  induction l with
  | nil => intro acc h; exact ⟨h, Int.le_refl _, .inl rfl⟩
  | cons x xs ih =>
    intro acc h
    simp only [lowF]
    by_cases g : x ≤ c
    · rw [if_pos g]
      obtain ⟨h1, h2, h3⟩ := ih (mx acc x) (by unfold mx; split <;> omega)
      refine ⟨h1, Int.le_trans (by unfold mx; split <;> omega) h2, ?_⟩
      rcases h3 with h3 | h3
      · rw [h3]
        unfold mx
        split
        · right; simp
        · left; rfl
      · right; exact List.mem_cons_of_mem _ h3
    · rw [if_neg g]
      obtain ⟨h1, h2, h3⟩ := ih acc h
      exact ⟨h1, h2, h3.imp id (List.mem_cons_of_mem _)⟩
theorem highF_in (c : Int) (l : List Int) : ∀ acc, c ≤ acc → (c ≤ highF c acc l ∧ highF c acc l ≤ acc ∧ (highF c acc l = acc ∨ highF c acc l ∈ l)) := by
  induction l with
  | nil => intro acc h; exact ⟨h, Int.le_refl _, .inl rfl⟩
  | cons x xs ih =>
    intro acc h
    simp only [highF]
    by_cases g : x ≥ c
    · rw [if_pos g]
      obtain ⟨h1, h2, h3⟩ := ih (mn acc x) (by unfold mn; split <;> omega)
      refine ⟨h1, Int.le_trans h2 (by unfold mn; split <;> omega), ?_⟩
      rcases h3 with h3 | h3
      · rw [h3]
        unfold mn
        split
        · right; simp
        · left; rfl
      · right; exact List.mem_cons_of_mem _ h3
    · rw [if_neg g]
      obtain ⟨h1, h2, h3⟩ := ih acc h
      exact ⟨h1, h2, h3.imp id (List.mem_cons_of_mem _)⟩
theorem drop_rd (r : List Int) (i : Int) (h0 : 0 ≤ i) (h1 : i < r.length) (z : Int) : (z ∈ r.drop i.toNat) ↔ rd r i = z ∨ z ∈ r.drop (i + 1).toNat := by
  rw [rd_drop r i h0 h1, List.mem_cons]
  constructor
  · rintro (h | h)
    · exact .inl h.symm
    · exact .inr h
  · rintro (h | h)
    · exact .inl h.symm
    · exact .inr h
theorem widen_loop (r : List Int) (hr : r.length ≤ 100) (a b c d lo hi : Int) (hab : leqV a b lo hi = true) (hcd : leqV c d lo hi = true) (w1 : widenV lo hi c d r = (lo, hi)) (w2 : widenV lo hi a b [] = (lo, hi)) (n : Nat) :
    ∀ (k : Nat) (x7 x8 : Bool) (i : Int), 0 ≤ i → i ≤ r.length → (r.length : Int) - i = n → n + 220 < k → (x7 = true ∨ lo ∈ r.drop i.toNat) → (x8 = true ∨ hi ∈ r.drop i.toNat) →
    laws_FnIvWiden.l0 k r x7 x8 i a b c d lo hi = some true := by
  induction n with
  | zero =>
    intro k x7 x8 i h0 h1 hd hk h7 h8
    obtain ⟨k, rfl⟩ : ∃ m, k = m + 1 := ⟨k - 1, by omega⟩
    have e7 : x7 = true := by
      rcases h7 with h | h
      · exact h
      · rw [List.drop_eq_nil_of_le (by omega)] at h; simp at h
    have e8 : x8 = true := by
      rcases h8 with h | h
      · exact h
      · rw [List.drop_eq_nil_of_le (by omega)] at h; simp at h
    simp only [laws_FnIvWiden.l0]
    rw [if_neg (by omega), if_pos e7, if_pos e8, impl_IvLeq_is, impl_IvLeq_is, hab, hcd, impl_IvWiden_is k (by omega), impl_IvWiden_is k (by omega), w1, w2]
    simp only [Option.bind_some, if_true, beq_self_eq_true, Bool.and_self]
  | succ n ih =>
    intro k x7 x8 i h0 h1 hd hk h7 h8
    obtain ⟨k, rfl⟩ : ∃ m, k = m + 1 := ⟨k - 1, by omega⟩
    have e1 : wrap64 (i + 1) = i + 1 := Math.w64_id (by omega) (by omega)
    have hlt : i < r.length := by omega
    have s7 : ∀ t : Bool, (t = true ∨ lo ∈ r.drop i.toNat) → (t = true ∨ (rd r i == lo) = true ∨ lo ∈ r.drop (i + 1).toNat) := by
      intro t h
      rcases h with h | h
      · exact .inl h
      · rw [drop_rd r i h0 hlt] at h
        exact .inr (h.imp (fun g => by simpa using g) id)
    have s8 : ∀ t : Bool, (t = true ∨ hi ∈ r.drop i.toNat) → (t = true ∨ (rd r i == hi) = true ∨ hi ∈ r.drop (i + 1).toNat) := by
      intro t h
      rcases h with h | h
      · exact .inl h
      · rw [drop_rd r i h0 hlt] at h
        exact .inr (h.imp (fun g => by simpa using g) id)
    have go := fun y7 y8 g7 g8 => ih k y7 y8 (i + 1) (by omega) (by omega) (by omega) (by omega) g7 g8
    simp only [laws_FnIvWiden.l0]
    rw [if_pos hlt, e1]
    cases x7 with
    | true =>
      rw [if_pos rfl]
      cases x8 with
      | true => rw [if_pos rfl]; exact go true true (.inl rfl) (.inl rfl)
      | false => rw [if_neg (by decide), if_pos h0]; exact go true _ (.inl rfl) ((s8 false h8).resolve_left (by decide))
    | false =>
      rw [if_neg (by decide), if_pos h0]
      cases x8 with
      | true => rw [if_pos rfl]; exact go _ true ((s7 false h7).resolve_left (by decide)) (.inl rfl)
      | false => rw [if_neg (by decide)]; exact go _ _ ((s7 false h7).resolve_left (by decide)) ((s8 false h8).resolve_left (by decide))
theorem FnIvWiden (l0 : List Int) (b0 : ∀ x ∈ l0, 0 ≤ x ∧ x ≤ 255) : ∃ k, laws_FnIvWiden.f k l0 = some true := by
  refine ⟨400, ?_⟩
  unfold laws_FnIvWiden.f laws_big.f
  simp only [Option.bind_some]
  by_cases hn : (l0.length : Int) > 1048576
  · rw [if_pos (by simpa using hn)]
  · rw [if_neg (by simpa using hn)]
    obtain ⟨a, b, c, d, r, e, ha, hb, hc, hd, hr, hrb⟩ := drawIvWiden_ok b0 (by omega)
    rw [e 400 (by omega)]
    simp only [Option.bind_some]
    rw [impl_IvWiden_is 400 (by omega), spec_IvWiden_is 400 (by omega)]
    simp only [Option.bind_some, beq_self_eq_true, Bool.not_true, Bool.or_self]
    rw [if_neg (by decide)]
    have done : laws_FnIvWiden.j0 400 r true a b c d (widenV a b c d r).1 (widenV a b c d r).2 = some true := by
      simp only [laws_FnIvWiden.j0]
      rw [if_pos trivial, spec_IvWiden_is 399 (by omega)]
      simp
    simp only [spec_IvOk.f, Option.bind_some]
    by_cases g1 : a ≤ b
    · rw [if_pos (by simpa using g1)]
      by_cases g2 : c ≤ d
      · rw [if_pos (by simpa using g2)]
        by_cases g3 : r.length ≤ 100
        · rw [show decide ((r.length : Int) > 100) = false by simp; omega]
          have hw : widenV a b c d r = (if c < a then lowF c (-9223372036854775808) r else a, if d > b then highF d 9223372036854775807 r else b) := if_pos ⟨g1, g2, g3⟩
          obtain ⟨lo, hlo⟩ : ∃ lo, lo = (if c < a then lowF c (-9223372036854775808) r else a) := ⟨_, rfl⟩
          obtain ⟨hi, hhi⟩ : ∃ hi, hi = (if d > b then highF d 9223372036854775807 r else b) := ⟨_, rfl⟩
          rw [hw, ← hlo, ← hhi]
          obtain ⟨f1, f2, f3⟩ := lowF_in c r (-9223372036854775808) (by omega)
          obtain ⟨t1, t2, t3⟩ := highF_in d r 9223372036854775807 (by omega)
          have p1 : lo ≤ a ∧ lo ≤ c ∧ (lo = a ∨ lo = -9223372036854775808 ∨ lo ∈ r) := by
            rw [hlo]
            split
            · exact ⟨by omega, f1, .inr f3⟩
            · exact ⟨by omega, by omega, .inl rfl⟩
          have p2 : b ≤ hi ∧ d ≤ hi ∧ (hi = b ∨ hi = 9223372036854775807 ∨ hi ∈ r) := by
            rw [hhi]
            split
            · exact ⟨by omega, t1, .inr t3⟩
            · exact ⟨by omega, by omega, .inl rfl⟩
          have q1 : leqV a b lo hi = true := by unfold leqV; simp only [decide_eq_true_eq]; omega
          have q2 : leqV c d lo hi = true := by unfold leqV; simp only [decide_eq_true_eq]; omega
          have w1 : widenV lo hi c d r = (lo, hi) := by
            unfold widenV
            rw [if_pos ⟨by omega, g2, g3⟩, if_neg (by omega), if_neg (by omega)]
          have w2 : widenV lo hi a b [] = (lo, hi) := by
            unfold widenV
            rw [if_pos ⟨by omega, g1, by simp⟩, if_neg (by omega), if_neg (by omega)]
          have loop := fun x7 x8 h7 h8 => widen_loop r g3 a b c d lo hi q1 q2 w1 w2 r.length 397 x7 x8 0 (by omega) (by omega) (by omega) (by omega) h7 h8
          have j2 : ∀ x7 x8 : Bool, (x7 = true ∨ lo ∈ r) → (x8 = true ∨ hi ∈ r) → laws_FnIvWiden.j2 398 r x7 x8 a b c d lo hi = some true := by
            intro x7 x8 h7 h8
            simp only [laws_FnIvWiden.j2]
            exact loop x7 x8 (by simpa using h7) (by simpa using h8)
          have j1 : ∀ x7 : Bool, (x7 = true ∨ lo ∈ r) → laws_FnIvWiden.j1 399 r x7 a b c d lo hi = some true := by
            intro x7 h7
            simp only [laws_FnIvWiden.j1]
            by_cases g : hi = b
            · rw [if_pos g]; exact j2 x7 true h7 (.inl rfl)
            · rw [if_neg g]
              refine j2 x7 _ h7 ?_
              rcases p2.2.2 with h | h | h
              · exact absurd h g
              · left; simpa using h
              · exact .inr h
          simp only [laws_FnIvWiden.j0]
          rw [if_neg (by decide)]
          by_cases g : lo = a
          · rw [if_pos g]; exact j1 true (.inl rfl)
          · rw [if_neg g]
            refine j1 _ ?_
            rcases p1.2.2 with h | h | h
            · exact absurd h g
            · left; simpa using h
            · exact .inr h
        · rw [show decide ((r.length : Int) > 100) = true by simp; omega]
          exact done
      · rw [if_neg (by simpa using g2)]
        exact done
    · rw [if_neg (by simpa using g1)]
      exact done

end Go.Proofs.Ytblgpjllgadibaa.PureFnIvWiden
