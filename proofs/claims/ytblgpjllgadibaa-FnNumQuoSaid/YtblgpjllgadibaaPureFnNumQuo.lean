/- A quotient, times what it was divided by, and what was left are the number; that is nearer to 0 than the divisor, and has not another sign than the number, for every code: the law's function returns true. Conditions: none. -/
import Derived.Test.YtblgpjllgadibaaQx2
import Derived.Test.YtblgpjllgadibaaQx3
import Derived.Test.YtblgpjllgadibaaQx4
import Derived.Test.YtblgpjllgadibaaQx5
import Derived.Test.YtblgpjllgadibaaQx7
import Derived.Test.YtblgpjllgadibaaQx8
import Derived.Test.YtblgpjllgadibaaQx9
import Derived.Test.YtblgpjllgadibaaQx10
import Derived.Test.YtblgpjllgadibaaMath
namespace Go.Proofs.Ytblgpjllgadibaa.PureFnNumQuo
open Go.RowKit Go.Proofs.Ytblgpjllgadibaa Go.Proofs.Ytblgpjllgadibaa.Q Go.Proofs.YtblgpjllgadibaaW.PrintWords Go.Proofs.YtblgpjllgadibaaW.PrintLast
set_option linter.unusedVariables false
set_option linter.unusedSimpArgs false

/-- A code of bytes, and a place in it. -/
def St (l : List Int) (p : Int) : Prop := (∀ x ∈ l, 0 ≤ x ∧ x ≤ 255) ∧ l.length ≤ 1048576 ∧ 0 ≤ p ∧ p ≤ l.length
theorem rd_mem {xs : List Int} {i : Int} (h0 : 0 ≤ i) (h1 : i < xs.length) : rd xs i ∈ xs := by
  unfold rd
  rw [List.getD_eq_getElem?_getD, List.getElem?_eq_getElem (by omega), Option.getD_some]
  exact List.getElem_mem _
theorem w64_in (x : Int) : -9223372036854775808 ≤ wrap64 x ∧ wrap64 x ≤ 9223372036854775807 := by
  unfold wrap64; omega
theorem next_ok {l : List Int} {p : Int} (h : St l p) : ∃ v q, spec_l1Rd_next.f l p = some (v, q) ∧ (0 ≤ v ∧ v ≤ 255) ∧ St l q := by
  obtain ⟨hb, hn, h0, h1⟩ := h
  unfold spec_l1Rd_next.f
  by_cases c : p ≥ (l.length : Int)
  · rw [if_pos c]; exact ⟨0, p, rfl, by omega, hb, hn, h0, h1⟩
  · have e1 : wrap64 (p + 1) = p + 1 := Math.w64_id (by omega) (by omega)
    have e2 : wrap64 (p + 1 - 1) = p := by rw [Math.w64_id (by omega) (by omega)]; omega
    have hv := hb _ (rd_mem h0 (show p < (l.length : Int) by omega))
    rw [if_neg c, e1, e2, if_pos h0, if_pos (by omega), Math.w64_id (by omega) (by omega)]
    exact ⟨rd l p, p + 1, rfl, hv, hb, hn, by omega, by omega⟩
theorem below_ok {l : List Int} {p : Int} (h : St l p) {n : Int} (h1 : 1 < n) (h2 : n ≤ 65536) : ∃ v q, spec_l1Rd_below.f l p n = some (v, q) ∧ (0 ≤ v ∧ v < n) ∧ St l q := by
  unfold spec_l1Rd_below.f
  rw [if_neg (by omega)]
  by_cases c : n ≤ 256
  · obtain ⟨v, q, e, hv, hq⟩ := next_ok h
    rw [if_pos c, e]
    simp only [Option.bind_some]
    rw [if_neg (by omega), Int.tmod_eq_emod_of_nonneg hv.1]
    exact ⟨_, q, rfl, ⟨Int.emod_nonneg _ (by omega), Int.emod_lt_of_pos _ (by omega)⟩, hq⟩
  · obtain ⟨v, q, e, hv, hq⟩ := next_ok h
    obtain ⟨v2, q2, e2, hv2, hq2⟩ := next_ok hq
    rw [if_neg c, e]
    simp only [Option.bind_some]
    rw [e2]
    simp only [Option.bind_some]
    rw [if_neg (by omega), Math.w64_id (x := v * 256) (by omega) (by omega), Math.w64_id (by omega) (by omega), Int.tmod_eq_emod_of_nonneg (by omega)]
    exact ⟨_, q2, rfl, ⟨Int.emod_nonneg _ (by omega), Int.emod_lt_of_pos _ (by omega)⟩, hq2⟩

theorem or_u64 (x y : Int) : 0 ≤ Go.bits .or .u64 x y ∧ Go.bits .or .u64 x y < 18446744073709551616 := by
  have := bounds_u64 (wf_bits .or .u64 x y)
  omega
theorem word_loop {l : List Int} (d : Nat) : ∀ (k : Nat) (x i p : Int), St l p → (0 ≤ x ∧ x < 18446744073709551616) → i + d = 8 → 0 ≤ i → d < k →
    ∃ v q, spec_l1Rd_word.l0 k x i l p = some (v, q) ∧ (0 ≤ v ∧ v < 18446744073709551616) ∧ St l q ∧ ∀ k', d < k' → spec_l1Rd_word.l0 k' x i l p = some (v, q) := by
  induction d with
  | zero =>
    intro k x i p h hx hi h0 hk
    have key : ∀ k', 0 < k' → spec_l1Rd_word.l0 k' x i l p = some (x, p) := by
      intro k' hk'
      obtain ⟨k', rfl⟩ : ∃ m, k' = m + 1 := ⟨k' - 1, by omega⟩
      simp only [spec_l1Rd_word.l0]; rw [if_neg (by omega)]
    exact ⟨x, p, key k hk, hx, h, key⟩
  | succ d ih =>
    intro k x i p h hx hi h0 hk
    obtain ⟨v, q, e, hv, hq⟩ := next_ok h
    obtain ⟨r, q2, _, hr, hq2, all⟩ := ih (d + 1) (Go.bits .or .u64 (IntKind.u64.wrap (x * 256)) (IntKind.u64.wrap v)) (i + 1) q hq (or_u64 _ _) (by omega) (by omega) (by omega)
    have key : ∀ k', d + 1 < k' → spec_l1Rd_word.l0 k' x i l p = some (r, q2) := by
      intro k' hk'
      obtain ⟨k', rfl⟩ : ∃ m, k' = m + 1 := ⟨k' - 1, by omega⟩
      simp only [spec_l1Rd_word.l0]
      rw [if_pos (by omega), e]
      simp only [Option.bind_some]
      rw [Math.w64_id (by omega) (by omega)]
      exact all k' (by omega)
    exact ⟨r, q2, key k hk, hr, hq2, key⟩
theorem word_ok {l : List Int} {p : Int} (h : St l p) : ∃ v q, (∀ k, 9 ≤ k → spec_l1Rd_word.f k l p = some (v, q)) ∧ (0 ≤ v ∧ v < 18446744073709551616) ∧ St l q := by
  obtain ⟨v, q, _, hv, hq, all⟩ := word_loop 8 9 0 0 p h (by omega) (by omega) (by omega) (by omega)
  exact ⟨v, q, fun k hk => all k (by omega), hv, hq⟩

theorem shr_in {x : Int} (y : Int) (h : -9223372036854775808 ≤ x ∧ x ≤ 9223372036854775807) : -9223372036854775808 ≤ shr .i64 x y ∧ shr .i64 x y ≤ 9223372036854775807 := by
  unfold shr
  have hp : (0 : Int) < 2 ^ min y.toNat IntKind.i64.bits := Int.pow_pos (by decide)
  generalize (2 : Int) ^ min y.toNat IntKind.i64.bits = z at hp
  constructor
  · rw [Int.le_ediv_iff_mul_le hp]
    by_cases h0 : (0 : Int) ≤ x
    · have := Int.mul_nonneg (show (0 : Int) ≤ 9223372036854775808 by decide) (Int.le_of_lt hp)
      have e : -9223372036854775808 * z = -(9223372036854775808 * z) := Int.neg_mul _ _
      omega
    · have : (9223372036854775808 : Int) * 1 ≤ 9223372036854775808 * z := Int.mul_le_mul_of_nonneg_left (by omega) (by omega)
      have e : -9223372036854775808 * z = -(9223372036854775808 * z) := Int.neg_mul _ _
      omega
  · by_cases h0 : (0 : Int) ≤ x
    · have := Int.ediv_le_self z h0
      omega
    · have : x / z < 0 := Int.ediv_lt_of_lt_mul hp (by omega)
      omega
theorem num_ok {l : List Int} {p : Int} (h : St l p) : ∃ v q, (∀ k, 9 ≤ k → spec_l1Rd_num.f k l p = some (v, q)) ∧ (-9223372036854775808 ≤ v ∧ v ≤ 9223372036854775807) ∧ St l q := by
  unfold spec_l1Rd_num.f
  obtain ⟨v, q, e, hv, hq⟩ := below_ok h (n := 6) (by decide) (by decide)
  rw [e]
  simp only [Option.bind_some]
  by_cases c0 : v = 0
  · simp only [if_pos c0]
    obtain ⟨i, q2, e2, hi, hq2⟩ := below_ok hq (n := 10) (by decide) (by decide)
    rw [e2]
    simp only [Option.bind_some]
    rw [if_pos hi.1, if_pos (by simpa using hi.2)]
    refine ⟨_, q2, fun _ _ => rfl, ?_, hq2⟩
    have hm := rd_mem (xs := [(-9223372036854775808), (-9223372036854775807), 9223372036854775807, 9223372036854775806, (-1), 0, 1, 4294967296, (-4294967296), 3037000500]) hi.1 (by simpa using hi.2)
    generalize rd _ i = z at hm
    simp only [List.mem_cons, List.not_mem_nil, or_false] at hm
    omega
  · simp only [if_neg c0]
    by_cases c1 : v = 1
    · simp only [if_pos c1]
      obtain ⟨x, q2, e2, hx, hq2⟩ := word_ok hq
      exact ⟨_, q2, fun k hk => by rw [e2 k hk]; rfl, w64_in _, hq2⟩
    · simp only [if_neg c1]
      by_cases c2 : v = 2
      · simp only [if_pos c2]
        obtain ⟨x, q2, e2, hx, hq2⟩ := word_ok hq
        obtain ⟨y, q3, e3, hy, hq3⟩ := below_ok hq2 (n := 60) (by decide) (by decide)
        refine ⟨_, q3, fun k hk => by rw [e2 k hk]; simp only [Option.bind_some]; rw [e3]; simp only [Option.bind_some]; rw [if_pos (by rw [Math.uwrap]; omega)], shr_in _ (w64_in _), hq3⟩
      · simp only [if_neg c2]
        obtain ⟨y, q3, e3, hy, hq3⟩ := below_ok hq (n := 41) (by decide) (by decide)
        rw [e3]
        exact ⟨_, q3, fun _ _ => rfl, w64_in _, hq3⟩

theorem once_ok {l : List Int} {p : Int} (h : St l p) {n : Int} (h1 : 1 < n) (h2 : n ≤ 65536) : ∃ b q, spec_l1Rd_once.f l p n = some (b, q) ∧ St l q := by
  obtain ⟨v, q, e, _, hq⟩ := below_ok h h1 h2
  unfold spec_l1Rd_once.f
  rw [e]
  exact ⟨_, q, rfl, hq⟩

theorem drawNumAdd_ok {l : List Int} (h : ∀ x ∈ l, 0 ≤ x ∧ x ≤ 255) (hn : l.length ≤ 1048576) : ∃ a b, (∀ k, 9 ≤ k → spec_DrawNumAdd.f k l = some (a, b)) ∧ (-9223372036854775808 ≤ a ∧ a ≤ 9223372036854775807) ∧ (-9223372036854775808 ≤ b ∧ b ≤ 9223372036854775807) := by
  have h0 : St l 0 := ⟨h, hn, by omega, by omega⟩
  unfold spec_DrawNumAdd.f spec_l1Open.f
  simp only [Option.bind_some]
  obtain ⟨a, q, e, ha, hq⟩ := num_ok h0
  obtain ⟨b, q2, e2, hq2⟩ := once_ok hq (n := 4) (by decide) (by decide)
  cases b with
  | true =>
    obtain ⟨i, q3, e3, hi, hq3⟩ := below_ok hq2 (n := 4) (by decide) (by decide)
    refine ⟨a, rd [wrap64 (9223372036854775807 - a), wrap64 ((-9223372036854775808) - a), wrap64 (-a), wrap64 ((wrap64 (9223372036854775807 - a)) + 1)] i, fun k hk => ?_, ha, ?_⟩
    · rw [e k hk]; simp only [Option.bind_some]; rw [e2]; simp only [Option.bind_some, if_true]; rw [e3]; simp only [Option.bind_some]
      rw [if_pos hi.1, if_pos (by simpa using hi.2)]
    · have hm := rd_mem (xs := [wrap64 (9223372036854775807 - a), wrap64 ((-9223372036854775808) - a), wrap64 (-a), wrap64 ((wrap64 (9223372036854775807 - a)) + 1)]) hi.1 (by simpa using hi.2)
      generalize rd _ i = z at hm
      simp only [List.mem_cons, List.not_mem_nil, or_false] at hm
      rcases hm with rfl | rfl | rfl | rfl <;> exact w64_in _
  | false =>
    obtain ⟨b, q3, e3, hb, hq3⟩ := num_ok hq2
    refine ⟨a, b, fun k hk => ?_, ha, hb⟩
    rw [e k hk]; simp only [Option.bind_some]; rw [e2]; simp only [Option.bind_some]; rw [e3 k hk]; rfl

theorem drawNumQuo_ok {l : List Int} (h : ∀ x ∈ l, 0 ≤ x ∧ x ≤ 255) (hn : l.length ≤ 1048576) : ∃ a b, (∀ k, 9 ≤ k → spec_DrawNumQuo.f k l = some (a, b)) ∧ (-9223372036854775808 ≤ a ∧ a ≤ 9223372036854775807) ∧ (-9223372036854775808 ≤ b ∧ b ≤ 9223372036854775807) := by
  obtain ⟨a, b, e, ha, hb⟩ := drawNumAdd_ok h hn
  exact ⟨a, b, fun k hk => by unfold spec_DrawNumQuo.f; rw [e k hk]; rfl, ha, hb⟩

theorem impl_NumQuo_is {a b : Int} (ha : -9223372036854775808 ≤ a ∧ a ≤ 9223372036854775807) :
    impl_NumQuo.f a b = some (Math.quoV a b) := by
  unfold impl_NumQuo.f Math.quoV
  by_cases h0 : b = 0
  · rw [if_pos h0, if_pos h0]
  · rw [if_neg h0, if_neg h0]
    by_cases hn : a = -9223372036854775808 ∧ b = -1
    · rw [if_pos hn.1, if_pos hn.2, if_pos hn]
    · have hi := Math.tdiv_in ha.1 ha.2 hn
      rw [if_neg hn, Math.w64_id hi.1 hi.2]
      by_cases h2 : a = -9223372036854775808
      · rw [if_pos h2, if_neg (fun h => hn ⟨h2, h⟩)]
      · rw [if_neg h2]

theorem spec_NumSub_is {a b : Int} (ha : -9223372036854775808 ≤ a ∧ a ≤ 9223372036854775807) (hb : -9223372036854775808 ≤ b ∧ b ≤ 9223372036854775807) :
    spec_NumSub.f a b = some (Math.subV a b) := by
  unfold spec_NumSub.f
  rw [if_pos ⟨ha, hb⟩]

theorem spec_NumQuo_is {a b : Int} (ha : -9223372036854775808 ≤ a ∧ a ≤ 9223372036854775807) :
    spec_NumQuo.f a b = some (Math.quoV a b) := by
  unfold spec_NumQuo.f Math.quoV
  by_cases h0 : b = 0
  · rw [if_pos h0, if_pos h0]
  · rw [if_neg h0, if_neg h0]
    by_cases h1 : b = -1
    · subst h1
      rw [if_pos rfl, spec_NumSub_is (by omega) ha]
      simp only [Option.bind_some, Math.subV]
      by_cases h2 : a = -9223372036854775808
      · subst h2; simp
      · rw [if_neg (by omega), if_neg (by omega), if_neg (by omega)]
        simp
    · have hn : ¬ (a = -9223372036854775808 ∧ b = -1) := fun h => h1 h.2
      have hi := Math.tdiv_in ha.1 ha.2 hn
      rw [if_neg h1, if_neg hn, Math.w64_id hi.1 hi.2]

theorem impl_NumRem_is (a b : Int) : impl_NumRem.f a b = some (Math.remV a b) := by
  unfold impl_NumRem.f Math.remV
  split
  · rfl
  · split <;> rfl

theorem spec_NumRem_is (a b : Int) : spec_NumRem.f a b = some (Math.remV a b) := by
  unfold spec_NumRem.f Math.remV
  split
  · rfl
  · split <;> rfl

theorem impl_NumMul_is {a b : Int} (ha : -9223372036854775808 ≤ a ∧ a ≤ 9223372036854775807) (hb : -9223372036854775808 ≤ b ∧ b ≤ 9223372036854775807) :
    impl_NumMul.f a b = some (Math.mulV a b) := by
  unfold impl_NumMul.f
  rw [if_pos ⟨ha, hb⟩]

theorem impl_NumAdd_is {a b : Int} (ha : -9223372036854775808 ≤ a ∧ a ≤ 9223372036854775807) (hb : -9223372036854775808 ≤ b ∧ b ≤ 9223372036854775807) :
    impl_NumAdd.f a b = some (Math.addV a b) := by
  unfold impl_NumAdd.f
  rw [if_pos ⟨ha, hb⟩]

theorem rem_is {a b : Int} (hb : b ≠ 0) : Math.remV a b = Int.tmod a b := by
  unfold Math.remV
  rw [if_neg hb]
  split
  · rename_i h; subst h; simp
  · rfl
theorem tmod_facts (a b : Int) (hb : b ≠ 0) : (Int.tmod a b).natAbs < b.natAbs ∧ (0 ≤ a → 0 ≤ Int.tmod a b ∧ Int.tmod a b ≤ a) ∧ (a ≤ 0 → a ≤ Int.tmod a b ∧ Int.tmod a b ≤ 0) := by
  have h1 : (Int.tmod a b).natAbs = a.natAbs % b.natAbs := Int.natAbs_tmod a b
  have h2 : a.natAbs % b.natAbs < b.natAbs := Nat.mod_lt _ (by omega)
  have h3 : a.natAbs % b.natAbs ≤ a.natAbs := Nat.mod_le _ _
  refine ⟨by omega, fun h => ?_, fun h => ?_⟩
  · have := Int.tmod_nonneg b h
    omega
  · have := Int.tmod_nonneg b (show 0 ≤ -a by omega)
    rw [Int.neg_tmod] at this
    omega
theorem FnNumQuo (l0 : List Int) (b0 : ∀ x ∈ l0, 0 ≤ x ∧ x ≤ 255) : ∃ k, laws_FnNumQuo.f k l0 = some true := by
  unfold laws_FnNumQuo.f laws_big.f
  simp only [Option.bind_some]
  by_cases hn : (l0.length : Int) > 1048576
  · exact ⟨0, by rw [if_pos (by simpa using hn)]⟩
  · obtain ⟨a, b, e, ha, hb⟩ := drawNumQuo_ok b0 (by omega)
    refine ⟨10 + 1, ?_⟩
    rw [if_neg (by simpa using hn), e (10 + 1) (by omega)]
    simp only [Option.bind_some]
    rw [impl_NumQuo_is ha, impl_NumRem_is, spec_NumQuo_is ha, spec_NumRem_is]
    simp only [Option.bind_some, if_true, laws_FnNumQuo.j0]
    have triv : ∀ c : Bool, c = true → (if c = true then (if (Math.quoV a b).1 = (Math.quoV a b).1 then (if (Math.quoV a b).2 = (Math.quoV a b).2 then ((spec_NumRem.f a b).bind fun t => (some (Math.remV a b == t))) else (some false)) else (some false)) else none) = some true := by
      intro c hc
      rw [if_pos hc, spec_NumRem_is]
      simp
    by_cases h0 : b = 0
    · rw [if_pos h0, spec_NumRem_is]
      simp
    · rw [if_neg h0]
      by_cases h1 : a = -9223372036854775808 ∧ b = -1
      · have hq : Math.quoV a b = (0, 1) := by unfold Math.quoV; rw [if_neg h0, if_pos h1]
        rw [hq, spec_NumRem_is]
        simp
      · have hq : Math.quoV a b = (Int.tdiv a b, 0) := by unfold Math.quoV; rw [if_neg h0, if_neg h1]
        rw [hq]
        simp only [bne_self_eq_false]
        rw [if_neg (by decide)]
        have hin := Math.tdiv_in ha.1 ha.2 h1
        rw [impl_NumMul_is hin hb, rem_is h0]
        have hsum := Int.mul_tdiv_add_tmod a b
        obtain ⟨f1, f2, f3⟩ := tmod_facts a b h0
        have hp : Math.mulV (Int.tdiv a b) b = (a - Int.tmod a b, 0) := by
          unfold Math.mulV
          rw [Int.mul_comm (Int.tdiv a b) b, show b * Int.tdiv a b = a - Int.tmod a b by omega, if_neg (by omega), if_neg (by omega)]
        rw [hp]
        simp only [Option.bind_some]
        rw [impl_NumAdd_is (by omega) (by omega)]
        have hs : Math.addV (a - Int.tmod a b) (Int.tmod a b) = (a, 0) := by
          unfold Math.addV
          rw [show a - Int.tmod a b + Int.tmod a b = a by omega, if_neg (by omega), if_neg (by omega)]
        rw [hs]
        simp only [Option.bind_some, if_true]
        generalize Int.tmod a b = r at *
        rw [Math.w64_id (x := -r) (by omega) (by omega)]
        by_cases r0 : r = 0
        · rw [if_pos r0]
        · rw [if_neg r0]
          by_cases rp : r > 0
          · rw [if_pos rp]
            have e1 : decide (r < 0) = false := by simp; omega
            have e2 : decide (a < 0) = false := by simp; omega
            rw [e1, e2]
            by_cases g1 : b > r
            · rw [if_pos g1]; rfl
            · rw [if_neg g1, if_pos (by omega)]; rfl
          · rw [if_neg rp, if_pos (by omega)]
            have e1 : decide (r < 0) = true := by simp; omega
            have e2 : decide (a < 0) = true := by simp; omega
            rw [e1, e2]
            by_cases g1 : b < r
            · rw [if_pos g1]; rfl
            · rw [if_neg g1, if_pos (by omega)]; rfl

end Go.Proofs.Ytblgpjllgadibaa.PureFnNumQuo
