/- Of two unlike tokens just one is less; one that is less than one that is less than a third is less than it, for every two codes: the law's function returns true. Conditions: none. -/
import Derived.Test.YtojlcngdcodgbaaQx0
import Derived.Test.YtojlcngdcodgbaaQx2
import Derived.Test.YtojlcngdcodgbaaQx3
import Derived.Test.YtojlcngdcodgbaaQx4
import Derived.Test.YtojlcngdcodgbaaQx5
import Derived.Test.YtojlcngdcodgbaaQx7
import Derived.Test.YtojlcngdcodgbaaQx8
import Derived.Test.YtojlcngdcodgbaaQx9
import Derived.Test.YtojlcngdcodgbaaQx17
import Derived.Test.YtojlcngdcodgbaaQx18
import Derived.Test.YtojlcngdcodgbaaQx25
import Derived.Test.YtojlcngdcodgbaaQx26
import Derived.Test.YtojlcngdcodgbaaQx28
import Derived.Test.YtojlcngdcodgbaaQx29
import Derived.Test.YtojlcngdcodgbaaQx30
import Derived.Test.YtojlcngdcodgbaaQx31
import Derived.Test.YtojlcngdcodgbaaQx32
import Derived.Test.YtojlcngdcodgbaaQx33
import Derived.Test.YtojlcngdcodgbaaQx34
import Derived.Test.YtojlcngdcodgbaaQx36
import Derived.Test.YtojlcngdcodgbaaQx38
import Derived.Test.YtojlcngdcodgbaaQx39
import Derived.Test.YtojlcngdcodgbaaMath
namespace Go.Proofs.Ytojlcngdcodgbaa.PureFnTokenOrder
open Go.RowKit Go.Proofs.Ytojlcngdcodgbaa Go.Proofs.Ytojlcngdcodgbaa.Q Go.Proofs.YtojlcngdcodgbaaW.PrintWords Go.Proofs.YtojlcngdcodgbaaW.PrintLast
set_option linter.unusedVariables false
set_option linter.unusedSimpArgs false

def cvE (x : S44) : S38 := ⟨x.f0, x.f1⟩
theorem rd38 (l : List S38) (i : Int) (h0 : 0 ≤ i) (h1 : i < l.length) : ∃ h : i.toNat < l.length, rd_T38 l i = l[i.toNat] := by
  have h : i.toNat < l.length := by omega
  refine ⟨h, ?_⟩
  unfold rd_T38
  simp [List.getD_eq_getElem?_getD, h]
theorem rd44 (l : List S44) (i : Int) (h0 : 0 ≤ i) (h1 : i < l.length) : ∃ h : i.toNat < l.length, rd_T44 l i = l[i.toNat] := by
  have h : i.toNat < l.length := by omega
  refine ⟨h, ?_⟩
  unfold rd_T44
  simp [List.getD_eq_getElem?_getD, h]
theorem toEntryS_loop (l : List S44) (hn : l.length ≤ 1048576) (d : Nat) : ∀ (k : Nat) (i : Int), 0 ≤ i → i ≤ l.length → (l.length : Int) - i = d → d < k →
    laws_toEntryS.l0 k l ((l.take i.toNat).map cvE ++ List.replicate d z38) i = some (l.map cvE) := by
  induction d with
  | zero =>
    intro k i h0 h1 hd hk
    obtain ⟨k, rfl⟩ : ∃ m, k = m + 1 := ⟨k - 1, by omega⟩
    simp only [laws_toEntryS.l0]
    rw [if_neg (by omega), List.take_of_length_le (by omega)]
    simp
  | succ d ih =>
    intro k i h0 h1 hd hk
    obtain ⟨k, rfl⟩ : ∃ m, k = m + 1 := ⟨k - 1, by omega⟩
    simp only [laws_toEntryS.l0]
    have hlen : ((l.take i.toNat).map cvE ++ List.replicate (d + 1) z38).length = l.length := by
      rw [List.length_append, List.length_map, List.length_take, List.length_replicate]; omega
    obtain ⟨hi, e⟩ := rd44 l i h0 (by omega)
    rw [if_pos (by omega), if_pos h0, e]
    simp only [laws_toEntry.f, Option.bind_some]
    rw [if_pos (by rw [hlen]; omega), Math.w64_id (by omega) (by omega)]
    have e : ((l.take i.toNat).map cvE ++ List.replicate (d + 1) z38).set i.toNat (⟨l[i.toNat].f0, l[i.toNat].f1⟩ : S38) = (l.take (i + 1).toNat).map cvE ++ List.replicate d z38 := by
      rw [show (i + 1).toNat = i.toNat + 1 by omega, List.take_succ_eq_append_getElem hi, List.set_append, if_neg (by rw [List.length_map, List.length_take]; omega), List.length_map, List.length_take, Nat.min_eq_left (by omega), Nat.sub_self]
      simp only [List.replicate_succ, List.set_cons_zero, List.map_append, List.map_cons, List.map_nil]
      rw [List.append_assoc]
      rfl
    rw [e]
    exact ih k (i + 1) (by omega) (by omega) (by omega) (by omega)
theorem toEntryS_is (l : List S44) (hn : l.length ≤ 1048576) (k : Nat) (hk : l.length < k) : laws_toEntryS.f k l = some (l.map cvE) := by
  unfold laws_toEntryS.f
  rw [if_pos (by omega), if_pos (by omega)]
  have := toEntryS_loop l hn l.length k 0 (by omega) (by omega) (by omega) hk
  simpa using this
theorem eqEntryS_self (l : List S38) (hn : l.length ≤ 9007199254740992) (k : Nat) (hk : l.length < k) : laws_eqEntryS.f k l l = some true := by
  have key : ∀ (d k : Nat) (i : Int), 0 ≤ i → i ≤ l.length → (l.length : Int) - i = d → d < k → laws_eqEntryS.l0 k l l i = some true := by
    intro d
    induction d with
    | zero =>
      intro k i h0 h1 hd hk
      obtain ⟨k, rfl⟩ : ∃ m, k = m + 1 := ⟨k - 1, by omega⟩
      simp only [laws_eqEntryS.l0]
      rw [if_neg (by omega)]
    | succ d ih =>
      intro k i h0 h1 hd hk
      obtain ⟨k, rfl⟩ : ∃ m, k = m + 1 := ⟨k - 1, by omega⟩
      simp only [laws_eqEntryS.l0]
      rw [if_pos (by omega), if_pos h0, if_pos (by omega)]
      simp only [laws_eqEntry.f, if_true, Option.bind_some]
      rw [Math.w64_id (by omega) (by omega)]
      exact ih k (i + 1) (by omega) (by omega) (by omega) (by omega)
  unfold laws_eqEntryS.f
  rw [if_pos rfl]
  exact key l.length k 0 (by omega) (by omega) (by omega) hk
/-- A right token. -/
def okT (l : List S38) : Bool := decide (l.length ≤ 3) && l.all impl_TokenOk.ok
theorem specTokenOk_is (l : List S38) (k : Nat) (hk : 4 ≤ k) : spec_TokenOk.f k l = some (okT l) := by
  unfold spec_TokenOk.f okT
  by_cases h3 : (l.length : Int) > 3
  · rw [if_pos h3, decide_eq_false (by omega)]; rfl
  · rw [if_neg h3, decide_eq_true (show l.length ≤ 3 by omega), Bool.true_and]
    have key : ∀ (d k : Nat) (i : Int), 0 ≤ i → i ≤ l.length → (l.length : Int) - i = d → d < k → spec_TokenOk.l0 k l i = some ((l.drop i.toNat).all impl_TokenOk.ok) := by
      intro d
      induction d with
      | zero =>
        intro k i h0 h1 hd hk
        obtain ⟨k, rfl⟩ : ∃ m, k = m + 1 := ⟨k - 1, by omega⟩
        simp only [spec_TokenOk.l0]
        rw [if_neg (by omega), List.drop_of_length_le (by omega)]
        rfl
      | succ d ih =>
        intro k i h0 h1 hd hk
        obtain ⟨k, rfl⟩ : ∃ m, k = m + 1 := ⟨k - 1, by omega⟩
        obtain ⟨hi, e⟩ := rd38 l i h0 (by omega)
        simp only [spec_TokenOk.l0]
        rw [if_pos (by omega), if_pos h0, e, List.drop_eq_getElem_cons hi, List.all_cons]
        have hn := ih k (i + 1) (by omega) (by omega) (by omega) (by omega)
        rw [show (i + 1).toNat = i.toNat + 1 by omega] at hn
        rw [Math.w64_id (by omega) (by omega), hn]
        generalize l[i.toNat] = x
        unfold spec_l1In.f impl_TokenOk.ok
        by_cases g1 : 0 ≤ x.f0 <;> by_cases g2 : x.f0 ≤ 29 <;> by_cases g3 : 0 ≤ x.f1 <;> by_cases g4 : x.f1 ≤ 4 <;> simp [g1, g2, g3, g4]
    have := key l.length k 0 (by omega) (by omega) (by omega) (by omega)
    simpa using this
theorem implTokenOk_is (l : List S38) : impl_TokenOk.f l = some (okT l) := rfl
theorem szEntryS_is (l : List S44) (hl : l.length ≤ 9223372036854775807) (a : Int) (h0 : 0 ≤ a) (h1 : a ≤ 1048576) : laws_szEntryS.f l a = some (if a < l.length then -1 else a - l.length) := by
  unfold laws_szEntryS.f
  rw [Math.w64_id (x := a - (l.length : Int)) (by omega) (by omega)]
  by_cases h : a < l.length
  · rw [if_pos h, if_pos (by omega)]
  · rw [if_neg h, if_neg (by omega)]

open impl_compareTokens in
theorem cmpI_cases (a b : Int) : (a < b ∧ cmpI a b = -1) ∨ (a = b ∧ cmpI a b = 0) ∨ (b < a ∧ cmpI a b = 1) := by
  unfold cmpI
  by_cases h : a < b
  · rw [if_pos h]; exact .inl ⟨h, rfl⟩
  · rw [if_neg h]
    by_cases g : a > b
    · rw [if_pos g]; exact .inr (.inr ⟨g, rfl⟩)
    · rw [if_neg g]; exact .inr (.inl ⟨by omega, rfl⟩)
/-- An entry is less than another one: by its line, then by its pick. -/
def ltE (x y : S38) : Prop := x.f0 < y.f0 ∨ (x.f0 = y.f0 ∧ x.f1 < y.f1)
theorem eqE {x y : S38} (h : x.f0 = y.f0) (g : x.f1 = y.f1) : x = y := by
  cases x; cases y; simp only at h g; rw [h, g]
open impl_compareTokens in
theorem cmpE_cases (x y : S38) : (ltE x y ∧ cmpE x y = -1) ∨ (x = y ∧ cmpE x y = 0) ∨ (ltE y x ∧ cmpE x y = 1) := by
  unfold cmpE orI ltE
  rcases cmpI_cases x.f0 y.f0 with ⟨h, e⟩ | ⟨h, e⟩ | ⟨h, e⟩ <;> rw [e]
  · exact .inl ⟨.inl h, rfl⟩
  · rw [if_pos rfl]
    rcases cmpI_cases x.f1 y.f1 with ⟨g, e⟩ | ⟨g, e⟩ | ⟨g, e⟩ <;> rw [e]
    · exact .inl ⟨.inr ⟨h, g⟩, rfl⟩
    · exact .inr (.inl ⟨eqE h g, rfl⟩)
    · exact .inr (.inr ⟨.inr ⟨h.symm, g⟩, rfl⟩)
  · exact .inr (.inr ⟨.inl h, rfl⟩)
theorem ltE_irr (x : S38) : ¬ ltE x x := by unfold ltE; omega
theorem ltE_trans {x y z : S38} (h : ltE x y) (g : ltE y z) : ltE x z := by unfold ltE at *; omega
/-- A list of entries is less than another one of the same length. -/
def ltL : List S38 → List S38 → Prop
  | x :: xs, y :: ys => ltE x y ∨ (x = y ∧ ltL xs ys)
  | _, _ => False
open impl_compareTokens in
theorem cmpF_cases : ∀ (a b : List S38), a.length = b.length → (ltL a b ∧ cmpF a b = -1) ∨ (a = b ∧ cmpF a b = 0) ∨ (ltL b a ∧ cmpF a b = 1)
  | [], [], _ => .inr (.inl ⟨rfl, rfl⟩)
  | x :: xs, y :: ys, h => by
    have ih := cmpF_cases xs ys (by simpa using h)
    show _ ∨ (_ ∧ orI (cmpE x y) (cmpF xs ys) = 0) ∨ _
    have e0 : cmpF (x :: xs) (y :: ys) = orI (cmpE x y) (cmpF xs ys) := rfl
    rw [e0]
    unfold orI
    rcases cmpE_cases x y with ⟨g, e⟩ | ⟨g, e⟩ | ⟨g, e⟩ <;> rw [e]
    · exact .inl ⟨.inl g, rfl⟩
    · rw [if_pos rfl]
      subst g
      rcases ih with ⟨i, e⟩ | ⟨i, e⟩ | ⟨i, e⟩ <;> rw [e]
      · exact .inl ⟨.inr ⟨rfl, i⟩, rfl⟩
      · exact .inr (.inl ⟨by rw [i], rfl⟩)
      · exact .inr (.inr ⟨.inr ⟨rfl, i⟩, rfl⟩)
    · exact .inr (.inr ⟨.inl g, rfl⟩)
theorem ltL_irr : ∀ a : List S38, ¬ ltL a a
  | [] => fun h => h
  | x :: xs => fun h => by
    rcases h with h | ⟨_, h⟩
    · exact ltE_irr x h
    · exact ltL_irr xs h
theorem ltL_trans : ∀ {a b c : List S38}, ltL a b → ltL b c → ltL a c
  | x :: xs, y :: ys, z :: zs, h, g => by
    rcases h with h | ⟨rfl, h⟩
    · rcases g with g | ⟨rfl, g⟩
      · exact .inl (ltE_trans h g)
      · exact .inl h
    · rcases g with g | ⟨rfl, g⟩
      · exact .inl g
      · exact .inr ⟨rfl, ltL_trans h g⟩
/-- A token is less than another one: by its length, then entry by entry. -/
def ltT (a b : List S38) : Prop := a.length < b.length ∨ (a.length = b.length ∧ ltL a b)
def lessV (a b : List S38) : Bool := okT a && okT b && decide (impl_compareTokens.orI (impl_compareTokens.cmpI a.length b.length) (impl_compareTokens.cmpF a b) < 0)
theorem ltT_irr (a : List S38) : ¬ ltT a a := by rintro (h | ⟨_, h⟩); omega; exact ltL_irr a h
theorem ltT_trans {a b c : List S38} (h : ltT a b) (g : ltT b c) : ltT a c := by
  rcases h with h | ⟨e, h⟩ <;> rcases g with g | ⟨e', g⟩
  · exact .inl (by omega)
  · exact .inl (by omega)
  · exact .inl (by omega)
  · exact .inr ⟨by omega, ltL_trans h g⟩
theorem ltT_tri (a b : List S38) : ltT a b ∨ a = b ∨ ltT b a := by
  rcases Nat.lt_trichotomy a.length b.length with h | h | h
  · exact .inl (.inl h)
  · rcases cmpF_cases a b h with ⟨i, _⟩ | ⟨i, _⟩ | ⟨i, _⟩
    · exact .inl (.inr ⟨h, i⟩)
    · exact .inr (.inl i)
    · exact .inr (.inr (.inr ⟨h.symm, i⟩))
  · exact .inr (.inr (.inl h))
theorem lessV_iff (a b : List S38) : lessV a b = true ↔ okT a = true ∧ okT b = true ∧ ltT a b := by
  have key : impl_compareTokens.orI (impl_compareTokens.cmpI a.length b.length) (impl_compareTokens.cmpF a b) < 0 ↔ ltT a b := by
    unfold impl_compareTokens.orI ltT
    rcases cmpI_cases (a.length : Int) (b.length : Int) with ⟨h, e⟩ | ⟨h, e⟩ | ⟨h, e⟩ <;> rw [e]
    · rw [if_neg (by decide)]; exact ⟨fun _ => .inl (by omega), fun _ => by decide⟩
    · rw [if_pos rfl]
      have hl : a.length = b.length := by omega
      rcases cmpF_cases a b hl with ⟨i, e⟩ | ⟨i, e⟩ | ⟨i, e⟩ <;> rw [e]
      · exact ⟨fun _ => .inr ⟨hl, i⟩, fun _ => by decide⟩
      · subst i; exact ⟨fun h => absurd h (by decide), fun h => absurd h (ltT_irr a)⟩
      · refine ⟨fun h => absurd h (by decide), fun h => ?_⟩
        rcases h with h | ⟨_, h⟩
        · omega
        · exact absurd (ltL_trans h i) (ltL_irr a)
    · rw [if_neg (by decide)]
      refine ⟨fun h => absurd h (by decide), fun h => ?_⟩
      rcases h with h | ⟨h, _⟩ <;> omega
  unfold lessV
  rw [Bool.and_eq_true, Bool.and_eq_true, decide_eq_true_eq, key, and_assoc]
theorem okT_len' {l : List S38} (h : okT l = true) : l.length ≤ 3 ∧ ∀ x ∈ l, (0 ≤ x.f0 ∧ x.f0 ≤ 29) ∧ (0 ≤ x.f1 ∧ x.f1 ≤ 4) := by
  unfold okT at h
  rw [Bool.and_eq_true] at h
  refine ⟨of_decide_eq_true h.1, fun x hx => ?_⟩
  have := List.all_eq_true.mp h.2 x hx
  unfold impl_TokenOk.ok at this
  rw [Bool.and_eq_true, decide_eq_true_eq, decide_eq_true_eq] at this
  exact this
theorem implTokenLess_is (a b : List S38) : impl_TokenLess.f a b = some (lessV a b) := by
  unfold impl_TokenLess.f lessV
  rw [implTokenOk_is]
  simp only [Option.bind_some]
  cases h1 : okT a with
  | false => rfl
  | true =>
    rw [if_pos rfl, implTokenOk_is]
    simp only [Option.bind_some]
    cases h2 : okT b with
    | false => rfl
    | true =>
      have := okT_len' h1
      have := okT_len' h2
      rw [if_pos rfl, show impl_compareTokens.f a b = _ from if_pos ⟨by omega, by omega⟩]
      rfl
theorem l9_loop (a b : List S38) (hl : a.length = b.length) (ha : ∀ x ∈ a, (0 ≤ x.f0 ∧ x.f0 ≤ 29) ∧ (0 ≤ x.f1 ∧ x.f1 ≤ 4)) (hb : ∀ x ∈ b, (0 ≤ x.f0 ∧ x.f0 ≤ 29) ∧ (0 ≤ x.f1 ∧ x.f1 ≤ 4)) (hn : a.length ≤ 3) (d : Nat) : ∀ (k : Nat) (i : Nat), i + d = a.length → d < k →
    spec_l9Cmp.l0 k a b i = some (impl_compareTokens.cmpF (a.drop i) (b.drop i)) := by
  induction d with
  | zero =>
    intro k i hi hk
    obtain ⟨k, rfl⟩ : ∃ m, k = m + 1 := ⟨k - 1, by omega⟩
    simp only [spec_l9Cmp.l0]
    rw [if_neg (by omega), List.drop_of_length_le (by omega), List.drop_of_length_le (by omega)]
    rfl
  | succ d ih =>
    intro k i hi hk
    obtain ⟨k, rfl⟩ : ∃ m, k = m + 1 := ⟨k - 1, by omega⟩
    obtain ⟨h1, e1⟩ := rd38 a (i : Int) (by omega) (by omega)
    obtain ⟨h2, e2⟩ := rd38 b (i : Int) (by omega) (by omega)
    have ih := ih k (i + 1) (by omega) (by omega)
    simp only [Int.toNat_natCast] at h1 h2 e1 e2
    simp only [spec_l9Cmp.l0]
    rw [if_pos (by omega), if_pos (by omega), if_pos (by omega), e1, e2, List.drop_eq_getElem_cons h1, List.drop_eq_getElem_cons h2]
    have x1 := ha _ (List.getElem_mem h1)
    have x2 := hb _ (List.getElem_mem h2)
    generalize a[i] = x at x1
    generalize b[i] = y at x2
    rw [Math.w64_id (x := 10 * x.f0) (by omega) (by omega), Math.w64_id (x := 10 * y.f0) (by omega) (by omega), Math.w64_id (x := 10 * x.f0 + x.f1) (by omega) (by omega), Math.w64_id (x := 10 * y.f0 + y.f1) (by omega) (by omega), Math.w64_id (x := (i : Int) + 1) (by omega) (by omega)]
    show _ = some (impl_compareTokens.orI (impl_compareTokens.cmpE x y) (impl_compareTokens.cmpF (a.drop (i + 1)) (b.drop (i + 1))))
    unfold impl_compareTokens.orI
    rcases cmpE_cases x y with ⟨g, e⟩ | ⟨g, e⟩ | ⟨g, e⟩ <;> rw [e]
    · unfold ltE at g
      rw [if_pos (by omega), if_neg (by decide)]
    · subst g
      rw [if_neg (Int.lt_irrefl _), if_neg (Int.lt_irrefl _), if_pos rfl, show (i : Int) + 1 = ((i + 1 : Nat) : Int) by omega]
      exact ih
    · unfold ltE at g
      rw [if_neg (by omega), if_pos (by omega), if_neg (by decide)]
theorem specTokenLess_is (a b : List S38) (k : Nat) (hk : 5 ≤ k) : spec_TokenLess.f k a b = some (lessV a b) := by
  unfold spec_TokenLess.f lessV
  rw [specTokenOk_is _ _ (by omega)]
  simp only [Option.bind_some]
  cases h1 : okT a with
  | false => rfl
  | true =>
    rw [if_pos rfl, specTokenOk_is _ _ (by omega)]
    simp only [Option.bind_some]
    cases h2 : okT b with
    | false => rfl
    | true =>
      obtain ⟨l1, g1⟩ := okT_len' h1
      obtain ⟨l2, g2⟩ := okT_len' h2
      rw [if_pos rfl]
      have key : spec_l9Cmp.f k a b = some (impl_compareTokens.orI (impl_compareTokens.cmpI a.length b.length) (impl_compareTokens.cmpF a b)) := by
        unfold spec_l9Cmp.f impl_compareTokens.orI
        rcases cmpI_cases (a.length : Int) (b.length : Int) with ⟨h, e⟩ | ⟨h, e⟩ | ⟨h, e⟩ <;> rw [e]
        · rw [if_neg (by omega), if_pos h, if_neg (by decide)]
        · rw [if_pos h, if_pos rfl]
          have := l9_loop a b (by omega) g1 g2 l1 a.length k 0 (by omega) (by omega)
          simpa using this
        · rw [if_neg (by omega), if_neg (by omega), if_neg (by decide)]
      rw [key]
      rfl

theorem same_is (a b : List S38) (hn : a.length ≤ 100) (k : Nat) (hk : 101 ≤ k) : ∃ r, laws_sameToken.f k a b = some r ∧ (r = true ↔ a = b) := by
  unfold laws_sameToken.f
  by_cases hl : (a.length : Int) = b.length
  · rw [if_pos hl]
    have key : ∀ (d k : Nat) (i : Nat), i + d = a.length → d < k → ∃ r, laws_sameToken.l0 k a b i = some r ∧ (r = true ↔ a.drop i = b.drop i) := by
      intro d
      induction d with
      | zero =>
        intro k i hi hk
        obtain ⟨k, rfl⟩ : ∃ m, k = m + 1 := ⟨k - 1, by omega⟩
        simp only [laws_sameToken.l0]
        rw [if_neg (by omega), List.drop_of_length_le (by omega), List.drop_of_length_le (by omega)]
        exact ⟨true, rfl, by simp⟩
      | succ d ih =>
        intro k i hi hk
        obtain ⟨k, rfl⟩ : ∃ m, k = m + 1 := ⟨k - 1, by omega⟩
        obtain ⟨h1, e1⟩ := rd38 a (i : Int) (by omega) (by omega)
        obtain ⟨h2, e2⟩ := rd38 b (i : Int) (by omega) (by omega)
        obtain ⟨r, er, hr⟩ := ih k (i + 1) (by omega) (by omega)
        simp only [Int.toNat_natCast] at h1 h2 e1 e2
        simp only [laws_sameToken.l0]
        rw [if_pos (by omega), if_pos (by omega), if_pos (by omega), e1, e2, List.drop_eq_getElem_cons h1, List.drop_eq_getElem_cons h2, Math.w64_id (x := (i : Int) + 1) (by omega) (by omega), show (i : Int) + 1 = ((i + 1 : Nat) : Int) by omega, er]
        generalize a[i] = x
        generalize b[i] = y
        by_cases c : x.f0 = y.f0 ∧ x.f1 = y.f1
        · have hxy : x = y := by cases x; cases y; simp only at c; rw [c.1, c.2]
          subst hxy
          exact ⟨r, by simp, by rw [hr]; simp⟩
        · refine ⟨false, ?_, ?_⟩
          · rw [if_pos]
            by_cases c1 : x.f0 = y.f0
            · have c2 : x.f1 ≠ y.f1 := fun h => c ⟨c1, h⟩
              simp [c2]
            · simp [c1]
          · refine ⟨fun h => by simp at h, fun h => ?_⟩
            have := (List.cons.inj h).1
            subst this
            exact absurd ⟨rfl, rfl⟩ c
    obtain ⟨r, e, h⟩ := key a.length k 0 (by omega) (by omega)
    exact ⟨r, by simpa using e, by simpa using h⟩
  · rw [if_neg hl]
    exact ⟨false, rfl, by simp; intro h; subst h; exact hl rfl⟩
theorem same_self (a : List S38) (hn : a.length ≤ 100) (k : Nat) (hk : 101 ≤ k) : laws_sameToken.f k a a = some true := by
  obtain ⟨r, e, h⟩ := same_is a a hn k hk
  rw [e, h.mpr rfl]

/-- A code of bytes, and a place in it. -/
def St (l : List Int) (p : Int) : Prop := (∀ x ∈ l, 0 ≤ x ∧ x ≤ 255) ∧ l.length ≤ 1048576 ∧ 0 ≤ p ∧ p ≤ l.length
theorem rd_mem {xs : List Int} {i : Int} (h0 : 0 ≤ i) (h1 : i < xs.length) : rd xs i ∈ xs := by
  unfold rd
  rw [List.getD_eq_getElem?_getD, List.getElem?_eq_getElem (by omega), Option.getD_some]
  exact List.getElem_mem _
theorem w64_in (x : Int) : -9223372036854775808 ≤ wrap64 x ∧ wrap64 x ≤ 9223372036854775807 := by
  unfold wrap64; omega
theorem next_ok {l : List Int} {p : Int} (h : St l p) : ∃ v q, spec_l1Rd_next.f l p = some (v, q) ∧ (0 ≤ v ∧ v ≤ 255) ∧ St l q := by
  obtain ⟨hb, hn, h0, h1⟩ := h
  unfold spec_l1Rd_next.f
  by_cases c : p ≥ (l.length : Int)
  · rw [if_pos c]; exact ⟨0, p, rfl, by omega, hb, hn, h0, h1⟩
  · have e1 : wrap64 (p + 1) = p + 1 := Math.w64_id (by omega) (by omega)
    have e2 : wrap64 (p + 1 - 1) = p := by rw [Math.w64_id (by omega) (by omega)]; omega
    have hv := hb _ (rd_mem h0 (show p < (l.length : Int) by omega))
    rw [if_neg c, e1, e2, if_pos h0, if_pos (by omega), Math.w64_id (by omega) (by omega)]
    exact ⟨rd l p, p + 1, rfl, hv, hb, hn, by omega, by omega⟩
theorem below_ok {l : List Int} {p : Int} (h : St l p) {n : Int} (h1 : 1 < n) (h2 : n ≤ 65536) : ∃ v q, spec_l1Rd_below.f l p n = some (v, q) ∧ (0 ≤ v ∧ v < n) ∧ St l q := by
  unfold spec_l1Rd_below.f
  rw [if_neg (by omega)]
  by_cases c : n ≤ 256
  · obtain ⟨v, q, e, hv, hq⟩ := next_ok h
    rw [if_pos c, e]
    simp only [Option.bind_some]
    rw [if_neg (by omega), Int.tmod_eq_emod_of_nonneg hv.1]
    exact ⟨_, q, rfl, ⟨Int.emod_nonneg _ (by omega), Int.emod_lt_of_pos _ (by omega)⟩, hq⟩
  · obtain ⟨v, q, e, hv, hq⟩ := next_ok h
    obtain ⟨v2, q2, e2, hv2, hq2⟩ := next_ok hq
    rw [if_neg c, e]
    simp only [Option.bind_some]
    rw [e2]
    simp only [Option.bind_some]
    rw [if_neg (by omega), Math.w64_id (x := v * 256) (by omega) (by omega), Math.w64_id (by omega) (by omega), Int.tmod_eq_emod_of_nonneg (by omega)]
    exact ⟨_, q2, rfl, ⟨Int.emod_nonneg _ (by omega), Int.emod_lt_of_pos _ (by omega)⟩, hq2⟩

theorem or_u64 (x y : Int) : 0 ≤ Go.bits .or .u64 x y ∧ Go.bits .or .u64 x y < 18446744073709551616 := by
  have := bounds_u64 (wf_bits .or .u64 x y)
  omega
theorem word_loop {l : List Int} (d : Nat) : ∀ (k : Nat) (x i p : Int), St l p → (0 ≤ x ∧ x < 18446744073709551616) → i + d = 8 → 0 ≤ i → d < k →
    ∃ v q, spec_l1Rd_word.l0 k x i l p = some (v, q) ∧ (0 ≤ v ∧ v < 18446744073709551616) ∧ St l q ∧ ∀ k', d < k' → spec_l1Rd_word.l0 k' x i l p = some (v, q) := by
  induction d with
  | zero =>
    intro k x i p h hx hi h0 hk
    have key : ∀ k', 0 < k' → spec_l1Rd_word.l0 k' x i l p = some (x, p) := by
      intro k' hk'
      obtain ⟨k', rfl⟩ : ∃ m, k' = m + 1 := ⟨k' - 1, by omega⟩
      simp only [spec_l1Rd_word.l0]; rw [if_neg (by omega)]
    exact ⟨x, p, key k hk, hx, h, key⟩
  | succ d ih =>
    intro k x i p h hx hi h0 hk
    obtain ⟨v, q, e, hv, hq⟩ := next_ok h
    obtain ⟨r, q2, _, hr, hq2, all⟩ := ih (d + 1) (Go.bits .or .u64 (IntKind.u64.wrap (x * 256)) (IntKind.u64.wrap v)) (i + 1) q hq (or_u64 _ _) (by omega) (by omega) (by omega)
    have key : ∀ k', d + 1 < k' → spec_l1Rd_word.l0 k' x i l p = some (r, q2) := by
      intro k' hk'
      obtain ⟨k', rfl⟩ : ∃ m, k' = m + 1 := ⟨k' - 1, by omega⟩
      simp only [spec_l1Rd_word.l0]
      rw [if_pos (by omega), e]
      simp only [Option.bind_some]
      rw [Math.w64_id (by omega) (by omega)]
      exact all k' (by omega)
    exact ⟨r, q2, key k hk, hr, hq2, key⟩
theorem word_ok {l : List Int} {p : Int} (h : St l p) : ∃ v q, (∀ k, 9 ≤ k → spec_l1Rd_word.f k l p = some (v, q)) ∧ (0 ≤ v ∧ v < 18446744073709551616) ∧ St l q := by
  obtain ⟨v, q, _, hv, hq, all⟩ := word_loop 8 9 0 0 p h (by omega) (by omega) (by omega) (by omega)
  exact ⟨v, q, fun k hk => all k (by omega), hv, hq⟩

theorem near_ok {l : List Int} {p : Int} (h : St l p) {lo hi : Int} (h1 : -9223372036854775808 ≤ lo ∧ lo ≤ 9223372036854775807) (h2 : -9223372036854775808 ≤ hi ∧ hi ≤ 9223372036854775807) (h3 : hi - lo < 18446744073709551615) :
    ∃ v q, (∀ k, 10 ≤ k → spec_l1Rd_near.f k l p lo hi = some (v, q)) ∧ (-9223372036854775808 ≤ v ∧ v ≤ 9223372036854775807) ∧ St l q := by
  unfold spec_l1Rd_near.f
  obtain ⟨c, q, e, hc, hq⟩ := below_ok h (n := 8) (by decide) (by decide)
  rw [e]
  simp only [Option.bind_some]
  by_cases c0 : c = 0
  · simp only [if_pos c0]; exact ⟨lo, q, fun _ _ => rfl, h1, hq⟩
  · simp only [if_neg c0]
    by_cases c1 : c = 1
    · simp only [if_pos c1]; exact ⟨hi, q, fun _ _ => rfl, h2, hq⟩
    · simp only [if_neg c1]
      by_cases g : hi < lo
      · simp only [if_pos g]; exact ⟨lo, q, fun _ _ => rfl, h1, hq⟩
      · simp only [if_neg g]
        obtain ⟨x, q2, e2, hx, hq2⟩ := word_ok hq
        have hw : IntKind.u64.wrap (wrap64 ((wrap64 (hi - lo)) + 1)) = hi - lo + 1 := by
          rw [Math.uwrap]; unfold wrap64; omega
        refine ⟨_, q2, fun k hk => ?_, w64_in (lo + (wrap64 (Int.tmod (x / 2) (hi - lo + 1)))), hq2⟩
        rw [e2 k (by omega)]
        simp only [Option.bind_some]
        rw [hw, if_neg (by omega)]

theorem once_ok {l : List Int} {p : Int} (h : St l p) {n : Int} (h1 : 1 < n) (h2 : n ≤ 65536) : ∃ b q, spec_l1Rd_once.f l p n = some (b, q) ∧ St l q := by
  obtain ⟨v, q, e, _, hq⟩ := below_ok h h1 h2
  unfold spec_l1Rd_once.f
  rw [e]
  exact ⟨_, q, rfl, hq⟩

theorem off_ok {l : List Int} {p : Int} (h : St l p) {lo hi : Int} (h1 : -9223372036854775808 ≤ lo ∧ lo ≤ 9223372036854775807) (h2 : -9223372036854775808 ≤ hi ∧ hi ≤ 9223372036854775807) (h3 : hi - lo < 18446744073709551615) :
    ∃ v q, (∀ k, 10 ≤ k → spec_l1Rd_off.f k l p lo hi = some (v, q)) ∧ (-9223372036854775808 ≤ v ∧ v ≤ 9223372036854775807) ∧ St l q := by
  unfold spec_l1Rd_off.f
  obtain ⟨o, q, e, hq⟩ := once_ok h (n := 24) (by decide) (by decide)
  rw [e]
  simp only [Option.bind_some]
  cases o with
  | true =>
    obtain ⟨i, q2, e2, hi2, hq2⟩ := below_ok hq (n := 4) (by decide) (by decide)
    simp only [if_true]
    rw [e2]
    simp only [Option.bind_some]
    rw [if_pos hi2.1, if_pos (by simpa using hi2.2)]
    refine ⟨_, q2, fun _ _ => rfl, ?_, hq2⟩
    have hm := rd_mem (xs := [wrap64 (lo - 1), wrap64 (hi + 1), (-9223372036854775808), 9223372036854775807]) hi2.1 (by simpa using hi2.2)
    generalize rd _ i = z at hm
    simp only [List.mem_cons, List.not_mem_nil, or_false] at hm
    rcases hm with rfl | rfl | rfl | rfl
    · exact w64_in _
    · exact w64_in _
    · decide
    · decide
  | false =>
    obtain ⟨v, q2, e2, hv, hq2⟩ := near_ok hq h1 h2 h3
    refine ⟨v, q2, fun k hk => ?_, hv, hq2⟩
    rw [if_neg (by decide), e2 k hk]; rfl

theorem token_loop {l : List Int} : ∀ (d : Nat) (x : List S38) (p : Int), St l p → x.length + d ≤ 3 → ∃ t q, (∀ k, 11 + d ≤ k → spec_l1Rd_token.l0 k x (d : Int) l p = some (t, q)) ∧ t.length ≤ 4 ∧ St l q
  | 0, x, p, h, hx => by
    obtain ⟨c, q, e, hc, hq⟩ := below_ok h (n := 40) (by decide) (by decide)
    by_cases c0 : c = 0
    · obtain ⟨a, q2, e2, ha, hq2⟩ := off_ok hq (lo := 0) (hi := 29) (by decide) (by decide) (by decide)
      obtain ⟨b, q3, e3, hb, hq3⟩ := off_ok hq2 (lo := 0) (hi := 4) (by decide) (by decide) (by decide)
      refine ⟨x ++ [⟨a, b⟩], q3, fun k hk => ?_, by simp; omega, hq3⟩
      obtain ⟨k, rfl⟩ : ∃ m, k = m + 1 := ⟨k - 1, by omega⟩
      rw [spec_l1Rd_token.l0, if_neg (by omega), e]
      simp only [Option.bind_some]
      rw [if_pos c0, e2 k (by omega)]
      simp only [Option.bind_some]
      rw [e3 k (by omega)]
      simp only [Option.bind_some]
      rw [if_pos (by omega)]
    · by_cases c1 : c = 1
      · obtain ⟨a, q2, e2, ha, hq2⟩ := off_ok hq (lo := 0) (hi := 29) (by decide) (by decide) (by decide)
        obtain ⟨b, q3, e3, hb, hq3⟩ := off_ok hq2 (lo := 0) (hi := 4) (by decide) (by decide) (by decide)
        refine ⟨[⟨a, b⟩], q3, fun k hk => ?_, by simp, hq3⟩
        obtain ⟨k, rfl⟩ : ∃ m, k = m + 1 := ⟨k - 1, by omega⟩
        rw [spec_l1Rd_token.l0, if_neg (by omega), e]
        simp only [Option.bind_some]
        rw [if_neg c0, if_pos c1, e2 k (by omega)]
        simp only [Option.bind_some]
        rw [e3 k (by omega)]
        rfl
      · refine ⟨x, q, fun k hk => ?_, by omega, hq⟩
        obtain ⟨k, rfl⟩ : ∃ m, k = m + 1 := ⟨k - 1, by omega⟩
        rw [spec_l1Rd_token.l0, if_neg (by omega), e]
        simp only [Option.bind_some]
        rw [if_neg c0, if_neg c1]
  | d + 1, x, p, h, hx => by
    obtain ⟨a, q, e, ha, hq⟩ := below_ok h (n := 4) (by decide) (by decide)
    obtain ⟨b, q2, e2, hb, hq2⟩ := below_ok hq (n := 3) (by decide) (by decide)
    obtain ⟨t, q3, ih, ht, hq3⟩ := token_loop d (x ++ [⟨a, b⟩]) q2 hq2 (by simp; omega)
    refine ⟨t, q3, fun k hk => ?_, ht, hq3⟩
    obtain ⟨k, rfl⟩ : ∃ m, k = m + 1 := ⟨k - 1, by omega⟩
    rw [spec_l1Rd_token.l0, if_pos (by omega), e]
    simp only [Option.bind_some]
    rw [e2]
    simp only [Option.bind_some]
    rw [if_pos (by omega), Math.w64_id (by omega) (by omega), show ((d + 1 : Nat) : Int) - 1 = (d : Int) by omega]
    exact ih k (by omega)
theorem token_ok {l : List Int} {p : Int} (h : St l p) : ∃ t q, (∀ k, 14 ≤ k → spec_l1Rd_token.f k l p = some (t, q)) ∧ t.length ≤ 4 ∧ St l q := by
  obtain ⟨n, q, e, hn, hq⟩ := below_ok h (n := 4) (by decide) (by decide)
  obtain ⟨d, rfl⟩ : ∃ d : Nat, n = d := ⟨n.toNat, by omega⟩
  obtain ⟨t, q2, e2, ht, hq2⟩ := token_loop d [] q hq (by simp; omega)
  refine ⟨t, q2, fun k hk => ?_, ht, hq2⟩
  unfold spec_l1Rd_token.f
  rw [e]
  exact e2 k (by omega)

theorem drawLess_ok {l : List Int} (h : ∀ x ∈ l, 0 ≤ x ∧ x ≤ 255) (hn : l.length ≤ 1048576) : ∃ a b, (∀ k, 14 ≤ k → spec_DrawTokenLess.f k l = some (a, b)) ∧ a.length ≤ 4 ∧ b.length ≤ 4 := by
  have h0 : St l 0 := ⟨h, hn, by omega, by omega⟩
  obtain ⟨a, q, e, ha, hq⟩ := token_ok h0
  obtain ⟨b, q2, e2, hb, hq2⟩ := token_ok hq
  refine ⟨a, b, fun k hk => ?_, ha, hb⟩
  unfold spec_DrawTokenLess.f spec_l1Open.f
  simp only [Option.bind_some]
  rw [e k hk]
  simp only [Option.bind_some]
  rw [e2 k hk]
  rfl
theorem FnTokenOrder (l0 l1 : List Int) (b0 : ∀ x ∈ l0, 0 ≤ x ∧ x ≤ 255) (b1 : ∀ x ∈ l1, 0 ≤ x ∧ x ≤ 255) : ∃ k, laws_FnTokenOrder.f k l0 l1 = some true := by
  refine ⟨200, ?_⟩
  have done : laws_FnTokenOrder.j0 200 l0 l1 true = some true := by rw [laws_FnTokenOrder.j0, if_pos rfl]
  unfold laws_FnTokenOrder.f laws_big.f
  simp only [Option.bind_some]
  by_cases hn : (l0.length : Int) > 1048576
  · rw [if_pos (by simpa using hn)]; exact done
  · rw [if_neg (by simpa using hn)]
    by_cases hm : (l1.length : Int) > 1048576
    · rw [decide_eq_true hm]; exact done
    · rw [decide_eq_false hm, laws_FnTokenOrder.j0, if_neg (by decide)]
      obtain ⟨a, b, e, ha, hb⟩ := drawLess_ok b0 (by omega)
      obtain ⟨c, _, e', hc, _⟩ := drawLess_ok b1 (by omega)
      rw [e 199 (by omega)]
      simp only [Option.bind_some]
      rw [e' 199 (by omega)]
      simp only [Option.bind_some]
      rw [implTokenLess_is, implTokenLess_is, specTokenLess_is _ _ _ (by omega)]
      simp only [Option.bind_some, bne_self_eq_false, Bool.false_eq_true, if_false]
      rw [specTokenOk_is _ _ (by omega)]
      simp only [Option.bind_some]
      have out : laws_FnTokenOrder.j1 199 a b c (lessV a b) (lessV b a) true = some true := by
        rw [laws_FnTokenOrder.j1, if_pos rfl, specTokenLess_is _ _ _ (by omega)]
        simp
      cases h1 : okT a with
      | false => exact out
      | true =>
        rw [if_pos rfl, specTokenOk_is _ _ (by omega)]
        simp only [Option.bind_some]
        cases h2 : okT b with
        | false => exact out
        | true =>
          have last : laws_FnTokenOrder.j2 198 a b c (lessV a b) false = some true := by
            rw [laws_FnTokenOrder.j2, if_neg (by decide)]
            by_cases x : lessV a b = true
            · rw [if_pos x, implTokenLess_is]
              simp only [Option.bind_some]
              by_cases y : lessV b c = true
              · rw [if_pos y, implTokenLess_is]
                obtain ⟨p1, p2, p3⟩ := (lessV_iff a b).mp x
                obtain ⟨q1, q2, q3⟩ := (lessV_iff b c).mp y
                rw [(lessV_iff a c).mpr ⟨p1, q2, ltT_trans p3 q3⟩]
                rfl
              · rw [if_neg y]
            · rw [if_neg x]
          obtain ⟨r, er, hr⟩ := same_is a b (by omega) 198 (by omega)
          rw [laws_FnTokenOrder.j1]
          simp only [Bool.not_true, Bool.false_eq_true, if_false, er, Option.bind_some]
          by_cases hab : a = b
          · have : r = true := hr.mpr hab
            have x1 : ¬ lessV a b = true := fun h => by
              have := ((lessV_iff a b).mp h).2.2
              rw [hab] at this
              exact ltT_irr b this
            have x2 : ¬ lessV b a = true := fun h => by
              have := ((lessV_iff b a).mp h).2.2
              rw [hab] at this
              exact ltT_irr b this
            rw [if_pos this, if_neg x1, if_neg x2, if_pos this]
            exact last
          · have : ¬ r = true := fun h => hab (hr.mp h)
            have hx : (lessV a b == lessV b a) = false := by
              rcases ltT_tri a b with h | h | h
              · rw [(lessV_iff a b).mpr ⟨h1, h2, h⟩]
                cases hh : lessV b a with
                | false => rfl
                | true => exact absurd (ltT_trans h ((lessV_iff b a).mp hh).2.2) (ltT_irr a)
              · exact absurd h hab
              · rw [(lessV_iff b a).mpr ⟨h2, h1, h⟩]
                cases hh : lessV a b with
                | false => rfl
                | true => exact absurd (ltT_trans h ((lessV_iff a b).mp hh).2.2) (ltT_irr b)
            rw [if_neg this, if_neg this, hx]
            exact last

end Go.Proofs.Ytojlcngdcodgbaa.PureFnTokenOrder
