/- A token with one more begins as it did, and ends with that, as long as there is room, for every code: the law's function returns true. Conditions: none. -/
import Derived.Test.YtojlcngdcodgbaaQx0
import Derived.Test.YtojlcngdcodgbaaQx2
import Derived.Test.YtojlcngdcodgbaaQx3
import Derived.Test.YtojlcngdcodgbaaQx4
import Derived.Test.YtojlcngdcodgbaaQx5
import Derived.Test.YtojlcngdcodgbaaQx7
import Derived.Test.YtojlcngdcodgbaaQx8
import Derived.Test.YtojlcngdcodgbaaQx9
import Derived.Test.YtojlcngdcodgbaaQx11
import Derived.Test.YtojlcngdcodgbaaQx12
import Derived.Test.YtojlcngdcodgbaaQx13
import Derived.Test.YtojlcngdcodgbaaQx28
import Derived.Test.YtojlcngdcodgbaaQx29
import Derived.Test.YtojlcngdcodgbaaQx30
import Derived.Test.YtojlcngdcodgbaaQx31
import Derived.Test.YtojlcngdcodgbaaQx32
import Derived.Test.YtojlcngdcodgbaaQx33
import Derived.Test.YtojlcngdcodgbaaQx34
import Derived.Test.YtojlcngdcodgbaaQx35
import Derived.Test.YtojlcngdcodgbaaQx36
import Derived.Test.YtojlcngdcodgbaaQx37
import Derived.Test.YtojlcngdcodgbaaMath
namespace Go.Proofs.Ytojlcngdcodgbaa.PureFnTokenWith
open Go.RowKit Go.Proofs.Ytojlcngdcodgbaa Go.Proofs.Ytojlcngdcodgbaa.Q Go.Proofs.YtojlcngdcodgbaaW.PrintWords Go.Proofs.YtojlcngdcodgbaaW.PrintLast
set_option linter.unusedVariables false
set_option linter.unusedSimpArgs false

def cvE (x : S44) : S38 := ⟨x.f0, x.f1⟩
theorem rd38 (l : List S38) (i : Int) (h0 : 0 ≤ i) (h1 : i < l.length) : ∃ h : i.toNat < l.length, rd_T38 l i = l[i.toNat] := by
  have h : i.toNat < l.length := by omega
  refine ⟨h, ?_⟩
  unfold rd_T38
  simp [List.getD_eq_getElem?_getD, h]
theorem rd44 (l : List S44) (i : Int) (h0 : 0 ≤ i) (h1 : i < l.length) : ∃ h : i.toNat < l.length, rd_T44 l i = l[i.toNat] := by
  have h : i.toNat < l.length := by omega
  refine ⟨h, ?_⟩
  unfold rd_T44
  simp [List.getD_eq_getElem?_getD, h]
theorem toEntryS_loop (l : List S44) (hn : l.length ≤ 1048576) (d : Nat) : ∀ (k : Nat) (i : Int), 0 ≤ i → i ≤ l.length → (l.length : Int) - i = d → d < k →
    laws_toEntryS.l0 k l ((l.take i.toNat).map cvE ++ List.replicate d z38) i = some (l.map cvE) := by
  induction d with
  | zero =>
    intro k i h0 h1 hd hk
    obtain ⟨k, rfl⟩ : ∃ m, k = m + 1 := ⟨k - 1, by omega⟩
    simp only [laws_toEntryS.l0]
    rw [if_neg (by omega), List.take_of_length_le (by omega)]
    simp
  | succ d ih =>
    intro k i h0 h1 hd hk
    obtain ⟨k, rfl⟩ : ∃ m, k = m + 1 := ⟨k - 1, by omega⟩
    simp only [laws_toEntryS.l0]
    have hlen : ((l.take i.toNat).map cvE ++ List.replicate (d + 1) z38).length = l.length := by
      rw [List.length_append, List.length_map, List.length_take, List.length_replicate]; omega
    obtain ⟨hi, e⟩ := rd44 l i h0 (by omega)
    rw [if_pos (by omega), if_pos h0, e]
    simp only [laws_toEntry.f, Option.bind_some]
    rw [if_pos (by rw [hlen]; omega), Math.w64_id (by omega) (by omega)]
    have e : ((l.take i.toNat).map cvE ++ List.replicate (d + 1) z38).set i.toNat (⟨l[i.toNat].f0, l[i.toNat].f1⟩ : S38) = (l.take (i + 1).toNat).map cvE ++ List.replicate d z38 := by
      rw [show (i + 1).toNat = i.toNat + 1 by omega, List.take_succ_eq_append_getElem hi, List.set_append, if_neg (by rw [List.length_map, List.length_take]; omega), List.length_map, List.length_take, Nat.min_eq_left (by omega), Nat.sub_self]
      simp only [List.replicate_succ, List.set_cons_zero, List.map_append, List.map_cons, List.map_nil]
      rw [List.append_assoc]
      rfl
    rw [e]
    exact ih k (i + 1) (by omega) (by omega) (by omega) (by omega)
theorem toEntryS_is (l : List S44) (hn : l.length ≤ 1048576) (k : Nat) (hk : l.length < k) : laws_toEntryS.f k l = some (l.map cvE) := by
  unfold laws_toEntryS.f
  rw [if_pos (by omega), if_pos (by omega)]
  have := toEntryS_loop l hn l.length k 0 (by omega) (by omega) (by omega) hk
  simpa using this
theorem eqEntryS_self (l : List S38) (hn : l.length ≤ 9007199254740992) (k : Nat) (hk : l.length < k) : laws_eqEntryS.f k l l = some true := by
  have key : ∀ (d k : Nat) (i : Int), 0 ≤ i → i ≤ l.length → (l.length : Int) - i = d → d < k → laws_eqEntryS.l0 k l l i = some true := by
    intro d
    induction d with
    | zero =>
      intro k i h0 h1 hd hk
      obtain ⟨k, rfl⟩ : ∃ m, k = m + 1 := ⟨k - 1, by omega⟩
      simp only [laws_eqEntryS.l0]
      rw [if_neg (by omega)]
    | succ d ih =>
      intro k i h0 h1 hd hk
      obtain ⟨k, rfl⟩ : ∃ m, k = m + 1 := ⟨k - 1, by omega⟩
      simp only [laws_eqEntryS.l0]
      rw [if_pos (by omega), if_pos h0, if_pos (by omega)]
      simp only [laws_eqEntry.f, if_true, Option.bind_some]
      rw [Math.w64_id (by omega) (by omega)]
      exact ih k (i + 1) (by omega) (by omega) (by omega) (by omega)
  unfold laws_eqEntryS.f
  rw [if_pos rfl]
  exact key l.length k 0 (by omega) (by omega) (by omega) hk
/-- A right token. -/
def okT (l : List S38) : Bool := decide (l.length ≤ 3) && l.all impl_TokenOk.ok
theorem specTokenOk_is (l : List S38) (k : Nat) (hk : 4 ≤ k) : spec_TokenOk.f k l = some (okT l) := by
  unfold spec_TokenOk.f okT
  by_cases h3 : (l.length : Int) > 3
  · rw [if_pos h3, decide_eq_false (by omega)]; rfl
  · rw [if_neg h3, decide_eq_true (show l.length ≤ 3 by omega), Bool.true_and]
    have key : ∀ (d k : Nat) (i : Int), 0 ≤ i → i ≤ l.length → (l.length : Int) - i = d → d < k → spec_TokenOk.l0 k l i = some ((l.drop i.toNat).all impl_TokenOk.ok) := by
      intro d
      induction d with
      | zero =>
        intro k i h0 h1 hd hk
        obtain ⟨k, rfl⟩ : ∃ m, k = m + 1 := ⟨k - 1, by omega⟩
        simp only [spec_TokenOk.l0]
        rw [if_neg (by omega), List.drop_of_length_le (by omega)]
        rfl
      | succ d ih =>
        intro k i h0 h1 hd hk
        obtain ⟨k, rfl⟩ : ∃ m, k = m + 1 := ⟨k - 1, by omega⟩
        obtain ⟨hi, e⟩ := rd38 l i h0 (by omega)
        simp only [spec_TokenOk.l0]
        rw [if_pos (by omega), if_pos h0, e, List.drop_eq_getElem_cons hi, List.all_cons]
        have hn := ih k (i + 1) (by omega) (by omega) (by omega) (by omega)
        rw [show (i + 1).toNat = i.toNat + 1 by omega] at hn
        rw [Math.w64_id (by omega) (by omega), hn]
        generalize l[i.toNat] = x
        unfold spec_l1In.f impl_TokenOk.ok
        by_cases g1 : 0 ≤ x.f0 <;> by_cases g2 : x.f0 ≤ 29 <;> by_cases g3 : 0 ≤ x.f1 <;> by_cases g4 : x.f1 ≤ 4 <;> simp [g1, g2, g3, g4]
    have := key l.length k 0 (by omega) (by omega) (by omega) (by omega)
    simpa using this
theorem implTokenOk_is (l : List S38) : impl_TokenOk.f l = some (okT l) := rfl
theorem szEntryS_is (l : List S44) (hl : l.length ≤ 9223372036854775807) (a : Int) (h0 : 0 ≤ a) (h1 : a ≤ 1048576) : laws_szEntryS.f l a = some (if a < l.length then -1 else a - l.length) := by
  unfold laws_szEntryS.f
  rw [Math.w64_id (x := a - (l.length : Int)) (by omega) (by omega)]
  by_cases h : a < l.length
  · rw [if_pos h, if_pos (by omega)]
  · rw [if_neg h, if_neg (by omega)]

/-- A token with one more entry. -/
def withV (l : List S38) (a b : Int) : List S38 := if okT l && okT [⟨a, b⟩] then (if l.length < 3 then l ++ [⟨a, b⟩] else l) else []
theorem okT_len {l : List S38} (h : okT l = true) : l.length ≤ 3 := by
  unfold okT at h
  rw [Bool.and_eq_true] at h
  exact of_decide_eq_true h.1
theorem withV_len (l : List S38) (a b : Int) : (withV l a b).length ≤ 3 := by
  unfold withV
  by_cases h : (okT l && okT [⟨a, b⟩]) = true
  · rw [if_pos h]
    rw [Bool.and_eq_true] at h
    have := okT_len h.1
    by_cases h2 : l.length < 3
    · rw [if_pos h2]; simp; omega
    · rw [if_neg h2]; exact this
  · rw [if_neg h]; simp
theorem specTokenWith_is (l : List S38) (a b : Int) (k : Nat) (hk : 5 ≤ k) : spec_TokenWith.f k l a b = some (withV l a b) := by
  obtain ⟨k, rfl⟩ : ∃ m, k = m + 5 := ⟨k - 5, by omega⟩
  unfold spec_TokenWith.f withV
  rw [specTokenOk_is _ _ (by omega)]
  simp only [Option.bind_some]
  cases h1 : okT l with
  | false => rw [if_neg (by decide), spec_TokenWith.j0, if_pos rfl]; rfl
  | true =>
    have hl := okT_len h1
    rw [if_pos rfl, specTokenOk_is _ _ (by omega)]
    simp only [Option.bind_some]
    cases h2 : okT [⟨a, b⟩] with
    | false => rw [spec_TokenWith.j0]; rfl
    | true =>
      rw [spec_TokenWith.j0]
      simp only [Bool.not_true, Bool.false_eq_true, if_false, Option.bind_some, List.nil_append, List.length_nil, Bool.and_self, if_true]
      rw [if_pos (by omega)]
      by_cases h3 : l.length < 3
      · rw [if_pos h3, if_pos (by omega), if_pos (by omega)]
      · rw [if_neg h3, if_neg (by omega)]
theorem implTokenWith_is (l : List S38) (a b : Int) (k : Nat) (hk : 5 ≤ k) : impl_TokenWith.f k l a b = some (withV l a b) := by
  obtain ⟨k, rfl⟩ : ∃ m, k = m + 5 := ⟨k - 5, by omega⟩
  unfold impl_TokenWith.f withV
  rw [implTokenOk_is]
  simp only [Option.bind_some]
  cases h1 : okT l with
  | false => rw [if_neg (by decide), impl_TokenWith.j0, if_pos rfl]; rfl
  | true =>
    have hl := okT_len h1
    rw [if_pos rfl, implTokenOk_is]
    simp only [Option.bind_some]
    cases h2 : okT [⟨a, b⟩] with
    | false => rw [impl_TokenWith.j0]; rfl
    | true =>
      rw [impl_TokenWith.j0]
      simp only [Bool.not_true, Bool.false_eq_true, if_false, Bool.and_self, if_true]
      rw [show impl_Entry.f l = some l from if_pos (by omega)]
      simp only [Option.bind_some]
      by_cases h3 : l.length < 3
      · rw [if_pos h3, if_pos (by omega), if_pos (by omega)]
      · rw [if_neg h3, if_neg (by omega)]

theorem same_is (a b : List S38) (hn : a.length ≤ 100) (k : Nat) (hk : 101 ≤ k) : ∃ r, laws_sameToken.f k a b = some r ∧ (r = true ↔ a = b) := by
  unfold laws_sameToken.f
  by_cases hl : (a.length : Int) = b.length
  · rw [if_pos hl]
    have key : ∀ (d k : Nat) (i : Nat), i + d = a.length → d < k → ∃ r, laws_sameToken.l0 k a b i = some r ∧ (r = true ↔ a.drop i = b.drop i) := by
      intro d
      induction d with
      | zero =>
        intro k i hi hk
        obtain ⟨k, rfl⟩ : ∃ m, k = m + 1 := ⟨k - 1, by omega⟩
        simp only [laws_sameToken.l0]
        rw [if_neg (by omega), List.drop_of_length_le (by omega), List.drop_of_length_le (by omega)]
        exact ⟨true, rfl, by simp⟩
      | succ d ih =>
        intro k i hi hk
        obtain ⟨k, rfl⟩ : ∃ m, k = m + 1 := ⟨k - 1, by omega⟩
        obtain ⟨h1, e1⟩ := rd38 a (i : Int) (by omega) (by omega)
        obtain ⟨h2, e2⟩ := rd38 b (i : Int) (by omega) (by omega)
        obtain ⟨r, er, hr⟩ := ih k (i + 1) (by omega) (by omega)
        simp only [Int.toNat_natCast] at h1 h2 e1 e2
        simp only [laws_sameToken.l0]
        rw [if_pos (by omega), if_pos (by omega), if_pos (by omega), e1, e2, List.drop_eq_getElem_cons h1, List.drop_eq_getElem_cons h2, Math.w64_id (x := (i : Int) + 1) (by omega) (by omega), show (i : Int) + 1 = ((i + 1 : Nat) : Int) by omega, er]
        generalize a[i] = x
        generalize b[i] = y
        by_cases c : x.f0 = y.f0 ∧ x.f1 = y.f1
        · have hxy : x = y := by cases x; cases y; simp only at c; rw [c.1, c.2]
          subst hxy
          exact ⟨r, by simp, by rw [hr]; simp⟩
        · refine ⟨false, ?_, ?_⟩
          · rw [if_pos]
            by_cases c1 : x.f0 = y.f0
            · have c2 : x.f1 ≠ y.f1 := fun h => c ⟨c1, h⟩
              simp [c2]
            · simp [c1]
          · refine ⟨fun h => by simp at h, fun h => ?_⟩
            have := (List.cons.inj h).1
            subst this
            exact absurd ⟨rfl, rfl⟩ c
    obtain ⟨r, e, h⟩ := key a.length k 0 (by omega) (by omega)
    exact ⟨r, by simpa using e, by simpa using h⟩
  · rw [if_neg hl]
    exact ⟨false, rfl, by simp; intro h; subst h; exact hl rfl⟩
theorem same_self (a : List S38) (hn : a.length ≤ 100) (k : Nat) (hk : 101 ≤ k) : laws_sameToken.f k a a = some true := by
  obtain ⟨r, e, h⟩ := same_is a a hn k hk
  rw [e, h.mpr rfl]

/-- A code of bytes, and a place in it. -/
def St (l : List Int) (p : Int) : Prop := (∀ x ∈ l, 0 ≤ x ∧ x ≤ 255) ∧ l.length ≤ 1048576 ∧ 0 ≤ p ∧ p ≤ l.length
theorem rd_mem {xs : List Int} {i : Int} (h0 : 0 ≤ i) (h1 : i < xs.length) : rd xs i ∈ xs := by
  unfold rd
  rw [List.getD_eq_getElem?_getD, List.getElem?_eq_getElem (by omega), Option.getD_some]
  exact List.getElem_mem _
theorem w64_in (x : Int) : -9223372036854775808 ≤ wrap64 x ∧ wrap64 x ≤ 9223372036854775807 := by
  unfold wrap64; omega
theorem next_ok {l : List Int} {p : Int} (h : St l p) : ∃ v q, spec_l1Rd_next.f l p = some (v, q) ∧ (0 ≤ v ∧ v ≤ 255) ∧ St l q := by
  obtain ⟨hb, hn, h0, h1⟩ := h
  unfold spec_l1Rd_next.f
  by_cases c : p ≥ (l.length : Int)
  · rw [if_pos c]; exact ⟨0, p, rfl, by omega, hb, hn, h0, h1⟩
  · have e1 : wrap64 (p + 1) = p + 1 := Math.w64_id (by omega) (by omega)
    have e2 : wrap64 (p + 1 - 1) = p := by rw [Math.w64_id (by omega) (by omega)]; omega
    have hv := hb _ (rd_mem h0 (show p < (l.length : Int) by omega))
    rw [if_neg c, e1, e2, if_pos h0, if_pos (by omega), Math.w64_id (by omega) (by omega)]
    exact ⟨rd l p, p + 1, rfl, hv, hb, hn, by omega, by omega⟩
theorem below_ok {l : List Int} {p : Int} (h : St l p) {n : Int} (h1 : 1 < n) (h2 : n ≤ 65536) : ∃ v q, spec_l1Rd_below.f l p n = some (v, q) ∧ (0 ≤ v ∧ v < n) ∧ St l q := by
  unfold spec_l1Rd_below.f
  rw [if_neg (by omega)]
  by_cases c : n ≤ 256
  · obtain ⟨v, q, e, hv, hq⟩ := next_ok h
    rw [if_pos c, e]
    simp only [Option.bind_some]
    rw [if_neg (by omega), Int.tmod_eq_emod_of_nonneg hv.1]
    exact ⟨_, q, rfl, ⟨Int.emod_nonneg _ (by omega), Int.emod_lt_of_pos _ (by omega)⟩, hq⟩
  · obtain ⟨v, q, e, hv, hq⟩ := next_ok h
    obtain ⟨v2, q2, e2, hv2, hq2⟩ := next_ok hq
    rw [if_neg c, e]
    simp only [Option.bind_some]
    rw [e2]
    simp only [Option.bind_some]
    rw [if_neg (by omega), Math.w64_id (x := v * 256) (by omega) (by omega), Math.w64_id (by omega) (by omega), Int.tmod_eq_emod_of_nonneg (by omega)]
    exact ⟨_, q2, rfl, ⟨Int.emod_nonneg _ (by omega), Int.emod_lt_of_pos _ (by omega)⟩, hq2⟩

theorem or_u64 (x y : Int) : 0 ≤ Go.bits .or .u64 x y ∧ Go.bits .or .u64 x y < 18446744073709551616 := by
  have := bounds_u64 (wf_bits .or .u64 x y)
  omega
theorem word_loop {l : List Int} (d : Nat) : ∀ (k : Nat) (x i p : Int), St l p → (0 ≤ x ∧ x < 18446744073709551616) → i + d = 8 → 0 ≤ i → d < k →
    ∃ v q, spec_l1Rd_word.l0 k x i l p = some (v, q) ∧ (0 ≤ v ∧ v < 18446744073709551616) ∧ St l q ∧ ∀ k', d < k' → spec_l1Rd_word.l0 k' x i l p = some (v, q) := by
  induction d with
  | zero =>
    intro k x i p h hx hi h0 hk
    have key : ∀ k', 0 < k' → spec_l1Rd_word.l0 k' x i l p = some (x, p) := by
      intro k' hk'
      obtain ⟨k', rfl⟩ : ∃ m, k' = m + 1 := ⟨k' - 1, by omega⟩
      simp only [spec_l1Rd_word.l0]; rw [if_neg (by omega)]
    exact ⟨x, p, key k hk, hx, h, key⟩
  | succ d ih =>
    intro k x i p h hx hi h0 hk
    obtain ⟨v, q, e, hv, hq⟩ := next_ok h
    obtain ⟨r, q2, _, hr, hq2, all⟩ := ih (d + 1) (Go.bits .or .u64 (IntKind.u64.wrap (x * 256)) (IntKind.u64.wrap v)) (i + 1) q hq (or_u64 _ _) (by omega) (by omega) (by omega)
    have key : ∀ k', d + 1 < k' → spec_l1Rd_word.l0 k' x i l p = some (r, q2) := by
      intro k' hk'
      obtain ⟨k', rfl⟩ : ∃ m, k' = m + 1 := ⟨k' - 1, by omega⟩
      simp only [spec_l1Rd_word.l0]
      rw [if_pos (by omega), e]
      simp only [Option.bind_some]
      rw [Math.w64_id (by omega) (by omega)]
      exact all k' (by omega)
    exact ⟨r, q2, key k hk, hr, hq2, key⟩
theorem word_ok {l : List Int} {p : Int} (h : St l p) : ∃ v q, (∀ k, 9 ≤ k → spec_l1Rd_word.f k l p = some (v, q)) ∧ (0 ≤ v ∧ v < 18446744073709551616) ∧ St l q := by
  obtain ⟨v, q, _, hv, hq, all⟩ := word_loop 8 9 0 0 p h (by omega) (by omega) (by omega) (by omega)
  exact ⟨v, q, fun k hk => all k (by omega), hv, hq⟩

theorem near_ok {l : List Int} {p : Int} (h : St l p) {lo hi : Int} (h1 : -9223372036854775808 ≤ lo ∧ lo ≤ 9223372036854775807) (h2 : -9223372036854775808 ≤ hi ∧ hi ≤ 9223372036854775807) (h3 : hi - lo < 18446744073709551615) :
    ∃ v q, (∀ k, 10 ≤ k → spec_l1Rd_near.f k l p lo hi = some (v, q)) ∧ (-9223372036854775808 ≤ v ∧ v ≤ 9223372036854775807) ∧ St l q := by
  unfold spec_l1Rd_near.f
  obtain ⟨c, q, e, hc, hq⟩ := below_ok h (n := 8) (by decide) (by decide)
  rw [e]
  simp only [Option.bind_some]
  by_cases c0 : c = 0
  · simp only [if_pos c0]; exact ⟨lo, q, fun _ _ => rfl, h1, hq⟩
  · simp only [if_neg c0]
    by_cases c1 : c = 1
    · simp only [if_pos c1]; exact ⟨hi, q, fun _ _ => rfl, h2, hq⟩
    · simp only [if_neg c1]
      by_cases g : hi < lo
      · simp only [if_pos g]; exact ⟨lo, q, fun _ _ => rfl, h1, hq⟩
      · simp only [if_neg g]
        obtain ⟨x, q2, e2, hx, hq2⟩ := word_ok hq
        have hw : IntKind.u64.wrap (wrap64 ((wrap64 (hi - lo)) + 1)) = hi - lo + 1 := by
          rw [Math.uwrap]; unfold wrap64; omega
        refine ⟨_, q2, fun k hk => ?_, w64_in (lo + (wrap64 (Int.tmod (x / 2) (hi - lo + 1)))), hq2⟩
        rw [e2 k (by omega)]
        simp only [Option.bind_some]
        rw [hw, if_neg (by omega)]

theorem once_ok {l : List Int} {p : Int} (h : St l p) {n : Int} (h1 : 1 < n) (h2 : n ≤ 65536) : ∃ b q, spec_l1Rd_once.f l p n = some (b, q) ∧ St l q := by
  obtain ⟨v, q, e, _, hq⟩ := below_ok h h1 h2
  unfold spec_l1Rd_once.f
  rw [e]
  exact ⟨_, q, rfl, hq⟩

theorem off_ok {l : List Int} {p : Int} (h : St l p) {lo hi : Int} (h1 : -9223372036854775808 ≤ lo ∧ lo ≤ 9223372036854775807) (h2 : -9223372036854775808 ≤ hi ∧ hi ≤ 9223372036854775807) (h3 : hi - lo < 18446744073709551615) :
    ∃ v q, (∀ k, 10 ≤ k → spec_l1Rd_off.f k l p lo hi = some (v, q)) ∧ (-9223372036854775808 ≤ v ∧ v ≤ 9223372036854775807) ∧ St l q := by
  unfold spec_l1Rd_off.f
  obtain ⟨o, q, e, hq⟩ := once_ok h (n := 24) (by decide) (by decide)
  rw [e]
  simp only [Option.bind_some]
  cases o with
  | true =>
    obtain ⟨i, q2, e2, hi2, hq2⟩ := below_ok hq (n := 4) (by decide) (by decide)
    simp only [if_true]
    rw [e2]
    simp only [Option.bind_some]
    rw [if_pos hi2.1, if_pos (by simpa using hi2.2)]
    refine ⟨_, q2, fun _ _ => rfl, ?_, hq2⟩
    have hm := rd_mem (xs := [wrap64 (lo - 1), wrap64 (hi + 1), (-9223372036854775808), 9223372036854775807]) hi2.1 (by simpa using hi2.2)
    generalize rd _ i = z at hm
    simp only [List.mem_cons, List.not_mem_nil, or_false] at hm
    rcases hm with rfl | rfl | rfl | rfl
    · exact w64_in _
    · exact w64_in _
    · decide
    · decide
  | false =>
    obtain ⟨v, q2, e2, hv, hq2⟩ := near_ok hq h1 h2 h3
    refine ⟨v, q2, fun k hk => ?_, hv, hq2⟩
    rw [if_neg (by decide), e2 k hk]; rfl

theorem token_loop {l : List Int} : ∀ (d : Nat) (x : List S38) (p : Int), St l p → x.length + d ≤ 3 → ∃ t q, (∀ k, 11 + d ≤ k → spec_l1Rd_token.l0 k x (d : Int) l p = some (t, q)) ∧ t.length ≤ 4 ∧ St l q
  | 0, x, p, h, hx => by
    obtain ⟨c, q, e, hc, hq⟩ := below_ok h (n := 40) (by decide) (by decide)
    by_cases c0 : c = 0
    · obtain ⟨a, q2, e2, ha, hq2⟩ := off_ok hq (lo := 0) (hi := 29) (by decide) (by decide) (by decide)
      obtain ⟨b, q3, e3, hb, hq3⟩ := off_ok hq2 (lo := 0) (hi := 4) (by decide) (by decide) (by decide)
      refine ⟨x ++ [⟨a, b⟩], q3, fun k hk => ?_, by simp; omega, hq3⟩
      obtain ⟨k, rfl⟩ : ∃ m, k = m + 1 := ⟨k - 1, by omega⟩
      rw [spec_l1Rd_token.l0, if_neg (by omega), e]
      simp only [Option.bind_some]
      rw [if_pos c0, e2 k (by omega)]
      simp only [Option.bind_some]
      rw [e3 k (by omega)]
      simp only [Option.bind_some]
      rw [if_pos (by omega)]
    · by_cases c1 : c = 1
      · obtain ⟨a, q2, e2, ha, hq2⟩ := off_ok hq (lo := 0) (hi := 29) (by decide) (by decide) (by decide)
        obtain ⟨b, q3, e3, hb, hq3⟩ := off_ok hq2 (lo := 0) (hi := 4) (by decide) (by decide) (by decide)
        refine ⟨[⟨a, b⟩], q3, fun k hk => ?_, by simp, hq3⟩
        obtain ⟨k, rfl⟩ : ∃ m, k = m + 1 := ⟨k - 1, by omega⟩
        rw [spec_l1Rd_token.l0, if_neg (by omega), e]
        simp only [Option.bind_some]
        rw [if_neg c0, if_pos c1, e2 k (by omega)]
        simp only [Option.bind_some]
        rw [e3 k (by omega)]
        rfl
      · refine ⟨x, q, fun k hk => ?_, by omega, hq⟩
        obtain ⟨k, rfl⟩ : ∃ m, k = m + 1 := ⟨k - 1, by omega⟩
        rw [spec_l1Rd_token.l0, if_neg (by omega), e]
        simp only [Option.bind_some]
        rw [if_neg c0, if_neg c1]
  | d + 1, x, p, h, hx => by
    obtain ⟨a, q, e, ha, hq⟩ := below_ok h (n := 4) (by decide) (by decide)
    obtain ⟨b, q2, e2, hb, hq2⟩ := below_ok hq (n := 3) (by decide) (by decide)
    obtain ⟨t, q3, ih, ht, hq3⟩ := token_loop d (x ++ [⟨a, b⟩]) q2 hq2 (by simp; omega)
    refine ⟨t, q3, fun k hk => ?_, ht, hq3⟩
    obtain ⟨k, rfl⟩ : ∃ m, k = m + 1 := ⟨k - 1, by omega⟩
    rw [spec_l1Rd_token.l0, if_pos (by omega), e]
    simp only [Option.bind_some]
    rw [e2]
    simp only [Option.bind_some]
    rw [if_pos (by omega), Math.w64_id (by omega) (by omega), show ((d + 1 : Nat) : Int) - 1 = (d : Int) by omega]
    exact ih k (by omega)
theorem token_ok {l : List Int} {p : Int} (h : St l p) : ∃ t q, (∀ k, 14 ≤ k → spec_l1Rd_token.f k l p = some (t, q)) ∧ t.length ≤ 4 ∧ St l q := by
  obtain ⟨n, q, e, hn, hq⟩ := below_ok h (n := 4) (by decide) (by decide)
  obtain ⟨d, rfl⟩ : ∃ d : Nat, n = d := ⟨n.toNat, by omega⟩
  obtain ⟨t, q2, e2, ht, hq2⟩ := token_loop d [] q hq (by simp; omega)
  refine ⟨t, q2, fun k hk => ?_, ht, hq2⟩
  unfold spec_l1Rd_token.f
  rw [e]
  exact e2 k (by omega)

theorem FnTokenWith (l0 : List Int) (b0 : ∀ x ∈ l0, 0 ≤ x ∧ x ≤ 255) : ∃ k, laws_FnTokenWith.f k l0 = some true := by
  refine ⟨200, ?_⟩
  unfold laws_FnTokenWith.f laws_big.f
  simp only [Option.bind_some]
  by_cases hn : (l0.length : Int) > 1048576
  · rw [if_pos (by simpa using hn)]
  · have h0 : St l0 0 := ⟨b0, by omega, by omega, by omega⟩
    obtain ⟨t, q, e, ht, hq⟩ := token_ok h0
    obtain ⟨a, q2, e2, ha, hq2⟩ := off_ok hq (lo := 0) (hi := 29) (by decide) (by decide) (by decide)
    obtain ⟨b, q3, e3, hb, hq3⟩ := off_ok hq2 (lo := 0) (hi := 4) (by decide) (by decide) (by decide)
    have ed : spec_DrawTokenWith.f 200 l0 = some (t, a, b) := by
      unfold spec_DrawTokenWith.f spec_l1Open.f
      simp only [Option.bind_some]
      rw [e 200 (by omega)]
      simp only [Option.bind_some]
      rw [e2 200 (by omega)]
      simp only [Option.bind_some]
      rw [e3 200 (by omega)]
      rfl
    rw [if_neg (by simpa using hn), ed]
    simp only [Option.bind_some]
    rw [implTokenWith_is _ _ _ _ (by omega), specTokenWith_is _ _ _ _ (by omega)]
    simp only [Option.bind_some]
    have hw := withV_len t a b
    rw [same_self (withV t a b) (by omega) 200 (by omega)]
    simp only [Option.bind_some, if_true]
    have done : withV t a b = [] → laws_FnTokenWith.j0 200 t a b (withV t a b) (withV t a b) (((withV t a b).length : Int) == 0) = some true := by
      intro h
      rw [h, laws_FnTokenWith.j0]
      rw [if_pos (by decide), same_self [] (by simp) 199 (by omega)]
      rfl
    by_cases ok : (okT t && okT [⟨a, b⟩]) = true
    · have ok' := ok
      rw [Bool.and_eq_true] at ok'
      obtain ⟨k1, k2⟩ := ok'
      have hl := okT_len k1
      unfold okT at k1 k2
      rw [Bool.and_eq_true] at k1 k2
      have hone : impl_TokenOk.ok ⟨a, b⟩ = true := by simpa using k2.2
      by_cases room : t.length < 3
      · have ew : withV t a b = t ++ [⟨a, b⟩] := by unfold withV; rw [if_pos ok, if_pos room]
        have eo : okT (t ++ [⟨a, b⟩]) = true := by
          unfold okT
          rw [Bool.and_eq_true, List.all_append, k1.2]
          simp [hone]; omega
        have len : (t ++ [(⟨a, b⟩ : S38)]).length = t.length + 1 := by simp
        rw [ew, len, laws_FnTokenWith.j0, if_neg (by simp; omega), implTokenOk_is, eo]
        simp only [Option.bind_some, if_true]
        rw [len, if_pos (by omega), if_pos (by omega), if_pos (by omega), Int.toNat_natCast, List.take_left, same_self t (by omega) 199 (by omega)]
        simp only [Option.bind_some, if_true]
        rw [if_pos (by omega), if_pos (by omega), Math.w64_id (by omega) (by omega), if_pos (by omega), if_pos (by omega)]
        obtain ⟨h, e⟩ := rd38 (t ++ [(⟨a, b⟩ : S38)]) (t.length : Int) (by omega) (by rw [len]; omega)
        rw [e]
        simp
      · have ew : withV t a b = t := by unfold withV; rw [if_pos ok, if_neg room]
        have eo : okT t = true := by
          unfold okT
          rw [Bool.and_eq_true]; exact k1
        rw [ew, laws_FnTokenWith.j0, if_neg (by rw [beq_iff_eq]; omega), implTokenOk_is, eo]
        simp only [Option.bind_some, if_true]
        rw [if_pos (by omega), if_pos (by omega), if_pos (by omega), Int.toNat_natCast, List.take_length, same_self t (by omega) 199 (by omega)]
        simp only [Option.bind_some, if_true]
        rw [if_neg (by omega)]
    · exact done (by unfold withV; rw [if_neg ok])

end Go.Proofs.Ytojlcngdcodgbaa.PureFnTokenWith
