/- The program's TokenLess and the reference's return the same for all arguments, and leave them alone: the law's function returns true. Conditions: none. -/
import Derived.Test.YtojlcngdcodgbaaQx0
import Derived.Test.YtojlcngdcodgbaaQx2
import Derived.Test.YtojlcngdcodgbaaQx3
import Derived.Test.YtojlcngdcodgbaaQx4
import Derived.Test.YtojlcngdcodgbaaQx5
import Derived.Test.YtojlcngdcodgbaaQx7
import Derived.Test.YtojlcngdcodgbaaQx8
import Derived.Test.YtojlcngdcodgbaaQx9
import Derived.Test.YtojlcngdcodgbaaQx17
import Derived.Test.YtojlcngdcodgbaaQx18
import Derived.Test.YtojlcngdcodgbaaQx25
import Derived.Test.YtojlcngdcodgbaaQx26
import Derived.Test.YtojlcngdcodgbaaQx27
import Derived.Test.YtojlcngdcodgbaaMath
namespace Go.Proofs.Ytojlcngdcodgbaa.PureFnExactTokenLess
open Go.RowKit Go.Proofs.Ytojlcngdcodgbaa Go.Proofs.Ytojlcngdcodgbaa.Q Go.Proofs.YtojlcngdcodgbaaW.PrintWords Go.Proofs.YtojlcngdcodgbaaW.PrintLast
set_option linter.unusedVariables false
set_option linter.unusedSimpArgs false

def cvE (x : S44) : S38 := ⟨x.f0, x.f1⟩
theorem rd38 (l : List S38) (i : Int) (h0 : 0 ≤ i) (h1 : i < l.length) : ∃ h : i.toNat < l.length, rd_T38 l i = l[i.toNat] := by
  have h : i.toNat < l.length := by omega
  refine ⟨h, ?_⟩
  unfold rd_T38
  simp [List.getD_eq_getElem?_getD, h]
theorem rd44 (l : List S44) (i : Int) (h0 : 0 ≤ i) (h1 : i < l.length) : ∃ h : i.toNat < l.length, rd_T44 l i = l[i.toNat] := by
  have h : i.toNat < l.length := by omega
  refine ⟨h, ?_⟩
  unfold rd_T44
  simp [List.getD_eq_getElem?_getD, h]
theorem toEntryS_loop (l : List S44) (hn : l.length ≤ 1048576) (d : Nat) : ∀ (k : Nat) (i : Int), 0 ≤ i → i ≤ l.length → (l.length : Int) - i = d → d < k →
    laws_toEntryS.l0 k l ((l.take i.toNat).map cvE ++ List.replicate d z38) i = some (l.map cvE) := by
  induction d with
  | zero =>
    intro k i h0 h1 hd hk
    obtain ⟨k, rfl⟩ : ∃ m, k = m + 1 := ⟨k - 1, by omega⟩
    simp only [laws_toEntryS.l0]
    rw [if_neg (by omega), List.take_of_length_le (by omega)]
    simp
  | succ d ih =>
    intro k i h0 h1 hd hk
    obtain ⟨k, rfl⟩ : ∃ m, k = m + 1 := ⟨k - 1, by omega⟩
    simp only [laws_toEntryS.l0]
    have hlen : ((l.take i.toNat).map cvE ++ List.replicate (d + 1) z38).length = l.length := by
      rw [List.length_append, List.length_map, List.length_take, List.length_replicate]; omega
    obtain ⟨hi, e⟩ := rd44 l i h0 (by omega)
    rw [if_pos (by omega), if_pos h0, e]
    simp only [laws_toEntry.f, Option.bind_some]
    rw [if_pos (by rw [hlen]; omega), Math.w64_id (by omega) (by omega)]
    have e : ((l.take i.toNat).map cvE ++ List.replicate (d + 1) z38).set i.toNat (⟨l[i.toNat].f0, l[i.toNat].f1⟩ : S38) = (l.take (i + 1).toNat).map cvE ++ List.replicate d z38 := by
      rw [show (i + 1).toNat = i.toNat + 1 by omega, List.take_succ_eq_append_getElem hi, List.set_append, if_neg (by rw [List.length_map, List.length_take]; omega), List.length_map, List.length_take, Nat.min_eq_left (by omega), Nat.sub_self]
      simp only [List.replicate_succ, List.set_cons_zero, List.map_append, List.map_cons, List.map_nil]
      rw [List.append_assoc]
      rfl
    rw [e]
    exact ih k (i + 1) (by omega) (by omega) (by omega) (by omega)
theorem toEntryS_is (l : List S44) (hn : l.length ≤ 1048576) (k : Nat) (hk : l.length < k) : laws_toEntryS.f k l = some (l.map cvE) := by
  unfold laws_toEntryS.f
  rw [if_pos (by omega), if_pos (by omega)]
  have := toEntryS_loop l hn l.length k 0 (by omega) (by omega) (by omega) hk
  simpa using this
theorem eqEntryS_self (l : List S38) (hn : l.length ≤ 9007199254740992) (k : Nat) (hk : l.length < k) : laws_eqEntryS.f k l l = some true := by
  have key : ∀ (d k : Nat) (i : Int), 0 ≤ i → i ≤ l.length → (l.length : Int) - i = d → d < k → laws_eqEntryS.l0 k l l i = some true := by
    intro d
    induction d with
    | zero =>
      intro k i h0 h1 hd hk
      obtain ⟨k, rfl⟩ : ∃ m, k = m + 1 := ⟨k - 1, by omega⟩
      simp only [laws_eqEntryS.l0]
      rw [if_neg (by omega)]
    | succ d ih =>
      intro k i h0 h1 hd hk
      obtain ⟨k, rfl⟩ : ∃ m, k = m + 1 := ⟨k - 1, by omega⟩
      simp only [laws_eqEntryS.l0]
      rw [if_pos (by omega), if_pos h0, if_pos (by omega)]
      simp only [laws_eqEntry.f, if_true, Option.bind_some]
      rw [Math.w64_id (by omega) (by omega)]
      exact ih k (i + 1) (by omega) (by omega) (by omega) (by omega)
  unfold laws_eqEntryS.f
  rw [if_pos rfl]
  exact key l.length k 0 (by omega) (by omega) (by omega) hk
/-- A right token. -/
def okT (l : List S38) : Bool := decide (l.length ≤ 3) && l.all impl_TokenOk.ok
theorem specTokenOk_is (l : List S38) (k : Nat) (hk : 4 ≤ k) : spec_TokenOk.f k l = some (okT l) := by
  unfold spec_TokenOk.f okT
  by_cases h3 : (l.length : Int) > 3
  · rw [if_pos h3, decide_eq_false (by omega)]; rfl
  · rw [if_neg h3, decide_eq_true (show l.length ≤ 3 by omega), Bool.true_and]
    have key : ∀ (d k : Nat) (i : Int), 0 ≤ i → i ≤ l.length → (l.length : Int) - i = d → d < k → spec_TokenOk.l0 k l i = some ((l.drop i.toNat).all impl_TokenOk.ok) := by
      intro d
      induction d with
      | zero =>
        intro k i h0 h1 hd hk
        obtain ⟨k, rfl⟩ : ∃ m, k = m + 1 := ⟨k - 1, by omega⟩
        simp only [spec_TokenOk.l0]
        rw [if_neg (by omega), List.drop_of_length_le (by omega)]
        rfl
      | succ d ih =>
        intro k i h0 h1 hd hk
        obtain ⟨k, rfl⟩ : ∃ m, k = m + 1 := ⟨k - 1, by omega⟩
        obtain ⟨hi, e⟩ := rd38 l i h0 (by omega)
        simp only [spec_TokenOk.l0]
        rw [if_pos (by omega), if_pos h0, e, List.drop_eq_getElem_cons hi, List.all_cons]
        have hn := ih k (i + 1) (by omega) (by omega) (by omega) (by omega)
        rw [show (i + 1).toNat = i.toNat + 1 by omega] at hn
        rw [Math.w64_id (by omega) (by omega), hn]
        generalize l[i.toNat] = x
        unfold spec_l1In.f impl_TokenOk.ok
        by_cases g1 : 0 ≤ x.f0 <;> by_cases g2 : x.f0 ≤ 29 <;> by_cases g3 : 0 ≤ x.f1 <;> by_cases g4 : x.f1 ≤ 4 <;> simp [g1, g2, g3, g4]
    have := key l.length k 0 (by omega) (by omega) (by omega) (by omega)
    simpa using this
theorem implTokenOk_is (l : List S38) : impl_TokenOk.f l = some (okT l) := rfl
theorem szEntryS_is (l : List S44) (hl : l.length ≤ 9223372036854775807) (a : Int) (h0 : 0 ≤ a) (h1 : a ≤ 1048576) : laws_szEntryS.f l a = some (if a < l.length then -1 else a - l.length) := by
  unfold laws_szEntryS.f
  rw [Math.w64_id (x := a - (l.length : Int)) (by omega) (by omega)]
  by_cases h : a < l.length
  · rw [if_pos h, if_pos (by omega)]
  · rw [if_neg h, if_neg (by omega)]

open impl_compareTokens in
theorem cmpI_cases (a b : Int) : (a < b ∧ cmpI a b = -1) ∨ (a = b ∧ cmpI a b = 0) ∨ (b < a ∧ cmpI a b = 1) := by
  unfold cmpI
  by_cases h : a < b
  · rw [if_pos h]; exact .inl ⟨h, rfl⟩
  · rw [if_neg h]
    by_cases g : a > b
    · rw [if_pos g]; exact .inr (.inr ⟨g, rfl⟩)
    · rw [if_neg g]; exact .inr (.inl ⟨by omega, rfl⟩)
/-- An entry is less than another one: by its line, then by its pick. -/
def ltE (x y : S38) : Prop := x.f0 < y.f0 ∨ (x.f0 = y.f0 ∧ x.f1 < y.f1)
theorem eqE {x y : S38} (h : x.f0 = y.f0) (g : x.f1 = y.f1) : x = y := by
  cases x; cases y; simp only at h g; rw [h, g]
open impl_compareTokens in
theorem cmpE_cases (x y : S38) : (ltE x y ∧ cmpE x y = -1) ∨ (x = y ∧ cmpE x y = 0) ∨ (ltE y x ∧ cmpE x y = 1) := by
  unfold cmpE orI ltE
  rcases cmpI_cases x.f0 y.f0 with ⟨h, e⟩ | ⟨h, e⟩ | ⟨h, e⟩ <;> rw [e]
  · exact .inl ⟨.inl h, rfl⟩
  · rw [if_pos rfl]
    rcases cmpI_cases x.f1 y.f1 with ⟨g, e⟩ | ⟨g, e⟩ | ⟨g, e⟩ <;> rw [e]
    · exact .inl ⟨.inr ⟨h, g⟩, rfl⟩
    · exact .inr (.inl ⟨eqE h g, rfl⟩)
    · exact .inr (.inr ⟨.inr ⟨h.symm, g⟩, rfl⟩)
  · exact .inr (.inr ⟨.inl h, rfl⟩)
theorem ltE_irr (x : S38) : ¬ ltE x x := by unfold ltE; omega
theorem ltE_trans {x y z : S38} (h : ltE x y) (g : ltE y z) : ltE x z := by unfold ltE at *; omega
/-- A list of entries is less than another one of the same length. -/
def ltL : List S38 → List S38 → Prop
  | x :: xs, y :: ys => ltE x y ∨ (x = y ∧ ltL xs ys)
  | _, _ => False
open impl_compareTokens in
theorem cmpF_cases : ∀ (a b : List S38), a.length = b.length → (ltL a b ∧ cmpF a b = -1) ∨ (a = b ∧ cmpF a b = 0) ∨ (ltL b a ∧ cmpF a b = 1)
  | [], [], _ => .inr (.inl ⟨rfl, rfl⟩)
  | x :: xs, y :: ys, h => by
    have ih := cmpF_cases xs ys (by simpa using h)
    show _ ∨ (_ ∧ orI (cmpE x y) (cmpF xs ys) = 0) ∨ _
    have e0 : cmpF (x :: xs) (y :: ys) = orI (cmpE x y) (cmpF xs ys) := rfl
    rw [e0]
    unfold orI
    rcases cmpE_cases x y with ⟨g, e⟩ | ⟨g, e⟩ | ⟨g, e⟩ <;> rw [e]
    · exact .inl ⟨.inl g, rfl⟩
    · rw [if_pos rfl]
      subst g
      rcases ih with ⟨i, e⟩ | ⟨i, e⟩ | ⟨i, e⟩ <;> rw [e]
      · exact .inl ⟨.inr ⟨rfl, i⟩, rfl⟩
      · exact .inr (.inl ⟨by rw [i], rfl⟩)
      · exact .inr (.inr ⟨.inr ⟨rfl, i⟩, rfl⟩)
    · exact .inr (.inr ⟨.inl g, rfl⟩)
theorem ltL_irr : ∀ a : List S38, ¬ ltL a a
  | [] => fun h => h
  | x :: xs => fun h => by
    rcases h with h | ⟨_, h⟩
    · exact ltE_irr x h
    · exact ltL_irr xs h
theorem ltL_trans : ∀ {a b c : List S38}, ltL a b → ltL b c → ltL a c
  | x :: xs, y :: ys, z :: zs, h, g => by
    rcases h with h | ⟨rfl, h⟩
    · rcases g with g | ⟨rfl, g⟩
      · exact .inl (ltE_trans h g)
      · exact .inl h
    · rcases g with g | ⟨rfl, g⟩
      · exact .inl g
      · exact .inr ⟨rfl, ltL_trans h g⟩
/-- A token is less than another one: by its length, then entry by entry. -/
def ltT (a b : List S38) : Prop := a.length < b.length ∨ (a.length = b.length ∧ ltL a b)
def lessV (a b : List S38) : Bool := okT a && okT b && decide (impl_compareTokens.orI (impl_compareTokens.cmpI a.length b.length) (impl_compareTokens.cmpF a b) < 0)
theorem ltT_irr (a : List S38) : ¬ ltT a a := by rintro (h | ⟨_, h⟩); omega; exact ltL_irr a h
theorem ltT_trans {a b c : List S38} (h : ltT a b) (g : ltT b c) : ltT a c := by
  rcases h with h | ⟨e, h⟩ <;> rcases g with g | ⟨e', g⟩
  · exact .inl (by omega)
  · exact .inl (by omega)
  · exact .inl (by omega)
  · exact .inr ⟨by omega, ltL_trans h g⟩
theorem ltT_tri (a b : List S38) : ltT a b ∨ a = b ∨ ltT b a := by
  rcases Nat.lt_trichotomy a.length b.length with h | h | h
  · exact .inl (.inl h)
  · rcases cmpF_cases a b h with ⟨i, _⟩ | ⟨i, _⟩ | ⟨i, _⟩
    · exact .inl (.inr ⟨h, i⟩)
    · exact .inr (.inl i)
    · exact .inr (.inr (.inr ⟨h.symm, i⟩))
  · exact .inr (.inr (.inl h))
theorem lessV_iff (a b : List S38) : lessV a b = true ↔ okT a = true ∧ okT b = true ∧ ltT a b := by
  have key : impl_compareTokens.orI (impl_compareTokens.cmpI a.length b.length) (impl_compareTokens.cmpF a b) < 0 ↔ ltT a b := by
    unfold impl_compareTokens.orI ltT
    rcases cmpI_cases (a.length : Int) (b.length : Int) with ⟨h, e⟩ | ⟨h, e⟩ | ⟨h, e⟩ <;> rw [e]
    · rw [if_neg (by decide)]; exact ⟨fun _ => .inl (by omega), fun _ => by decide⟩
    · rw [if_pos rfl]
      have hl : a.length = b.length := by omega
      rcases cmpF_cases a b hl with ⟨i, e⟩ | ⟨i, e⟩ | ⟨i, e⟩ <;> rw [e]
      · exact ⟨fun _ => .inr ⟨hl, i⟩, fun _ => by decide⟩
      · subst i; exact ⟨fun h => absurd h (by decide), fun h => absurd h (ltT_irr a)⟩
      · refine ⟨fun h => absurd h (by decide), fun h => ?_⟩
        rcases h with h | ⟨_, h⟩
        · omega
        · exact absurd (ltL_trans h i) (ltL_irr a)
    · rw [if_neg (by decide)]
      refine ⟨fun h => absurd h (by decide), fun h => ?_⟩
      rcases h with h | ⟨h, _⟩ <;> omega
  unfold lessV
  rw [Bool.and_eq_true, Bool.and_eq_true, decide_eq_true_eq, key, and_assoc]
theorem okT_len' {l : List S38} (h : okT l = true) : l.length ≤ 3 ∧ ∀ x ∈ l, (0 ≤ x.f0 ∧ x.f0 ≤ 29) ∧ (0 ≤ x.f1 ∧ x.f1 ≤ 4) := by
  unfold okT at h
  rw [Bool.and_eq_true] at h
  refine ⟨of_decide_eq_true h.1, fun x hx => ?_⟩
  have := List.all_eq_true.mp h.2 x hx
  unfold impl_TokenOk.ok at this
  rw [Bool.and_eq_true, decide_eq_true_eq, decide_eq_true_eq] at this
  exact this
theorem implTokenLess_is (a b : List S38) : impl_TokenLess.f a b = some (lessV a b) := by
  unfold impl_TokenLess.f lessV
  rw [implTokenOk_is]
  simp only [Option.bind_some]
  cases h1 : okT a with
  | false => rfl
  | true =>
    rw [if_pos rfl, implTokenOk_is]
    simp only [Option.bind_some]
    cases h2 : okT b with
    | false => rfl
    | true =>
      have := okT_len' h1
      have := okT_len' h2
      rw [if_pos rfl, show impl_compareTokens.f a b = _ from if_pos ⟨by omega, by omega⟩]
      rfl
theorem l9_loop (a b : List S38) (hl : a.length = b.length) (ha : ∀ x ∈ a, (0 ≤ x.f0 ∧ x.f0 ≤ 29) ∧ (0 ≤ x.f1 ∧ x.f1 ≤ 4)) (hb : ∀ x ∈ b, (0 ≤ x.f0 ∧ x.f0 ≤ 29) ∧ (0 ≤ x.f1 ∧ x.f1 ≤ 4)) (hn : a.length ≤ 3) (d : Nat) : ∀ (k : Nat) (i : Nat), i + d = a.length → d < k →
    spec_l9Cmp.l0 k a b i = some (impl_compareTokens.cmpF (a.drop i) (b.drop i)) := by
  induction d with
  | zero =>
    intro k i hi hk
    obtain ⟨k, rfl⟩ : ∃ m, k = m + 1 := ⟨k - 1, by omega⟩
    simp only [spec_l9Cmp.l0]
    rw [if_neg (by omega), List.drop_of_length_le (by omega), List.drop_of_length_le (by omega)]
    rfl
  | succ d ih =>
    intro k i hi hk
    obtain ⟨k, rfl⟩ : ∃ m, k = m + 1 := ⟨k - 1, by omega⟩
    obtain ⟨h1, e1⟩ := rd38 a (i : Int) (by omega) (by omega)
    obtain ⟨h2, e2⟩ := rd38 b (i : Int) (by omega) (by omega)
    have ih := ih k (i + 1) (by omega) (by omega)
    simp only [Int.toNat_natCast] at h1 h2 e1 e2
    simp only [spec_l9Cmp.l0]
    rw [if_pos (by omega), if_pos (by omega), if_pos (by omega), e1, e2, List.drop_eq_getElem_cons h1, List.drop_eq_getElem_cons h2]
    have x1 := ha _ (List.getElem_mem h1)
    have x2 := hb _ (List.getElem_mem h2)
    generalize a[i] = x at x1
    generalize b[i] = y at x2
    rw [Math.w64_id (x := 10 * x.f0) (by omega) (by omega), Math.w64_id (x := 10 * y.f0) (by omega) (by omega), Math.w64_id (x := 10 * x.f0 + x.f1) (by omega) (by omega), Math.w64_id (x := 10 * y.f0 + y.f1) (by omega) (by omega), Math.w64_id (x := (i : Int) + 1) (by omega) (by omega)]
    show _ = some (impl_compareTokens.orI (impl_compareTokens.cmpE x y) (impl_compareTokens.cmpF (a.drop (i + 1)) (b.drop (i + 1))))
    unfold impl_compareTokens.orI
    rcases cmpE_cases x y with ⟨g, e⟩ | ⟨g, e⟩ | ⟨g, e⟩ <;> rw [e]
    · unfold ltE at g
      rw [if_pos (by omega), if_neg (by decide)]
    · subst g
      rw [if_neg (Int.lt_irrefl _), if_neg (Int.lt_irrefl _), if_pos rfl, show (i : Int) + 1 = ((i + 1 : Nat) : Int) by omega]
      exact ih
    · unfold ltE at g
      rw [if_neg (by omega), if_pos (by omega), if_neg (by decide)]
theorem specTokenLess_is (a b : List S38) (k : Nat) (hk : 5 ≤ k) : spec_TokenLess.f k a b = some (lessV a b) := by
  unfold spec_TokenLess.f lessV
  rw [specTokenOk_is _ _ (by omega)]
  simp only [Option.bind_some]
  cases h1 : okT a with
  | false => rfl
  | true =>
    rw [if_pos rfl, specTokenOk_is _ _ (by omega)]
    simp only [Option.bind_some]
    cases h2 : okT b with
    | false => rfl
    | true =>
      obtain ⟨l1, g1⟩ := okT_len' h1
      obtain ⟨l2, g2⟩ := okT_len' h2
      rw [if_pos rfl]
      have key : spec_l9Cmp.f k a b = some (impl_compareTokens.orI (impl_compareTokens.cmpI a.length b.length) (impl_compareTokens.cmpF a b)) := by
        unfold spec_l9Cmp.f impl_compareTokens.orI
        rcases cmpI_cases (a.length : Int) (b.length : Int) with ⟨h, e⟩ | ⟨h, e⟩ | ⟨h, e⟩ <;> rw [e]
        · rw [if_neg (by omega), if_pos h, if_neg (by decide)]
        · rw [if_pos h, if_pos rfl]
          have := l9_loop a b (by omega) g1 g2 l1 a.length k 0 (by omega) (by omega)
          simpa using this
        · rw [if_neg (by omega), if_neg (by omega), if_neg (by decide)]
      rw [key]
      rfl

theorem FnExactTokenLess (l0 l1 : List S44) (b0 : l0.length ≤ 9223372036854775807 ∧ ∀ x ∈ l0, (-9223372036854775808 ≤ x.f0 ∧ x.f0 ≤ 9223372036854775807) ∧ (-9223372036854775808 ≤ x.f1 ∧ x.f1 ≤ 9223372036854775807)) (b1 : l1.length ≤ 9223372036854775807 ∧ ∀ x ∈ l1, (-9223372036854775808 ≤ x.f0 ∧ x.f0 ≤ 9223372036854775807) ∧ (-9223372036854775808 ≤ x.f1 ∧ x.f1 ≤ 9223372036854775807)) : ∃ k, laws_FnExactTokenLess.f k l0 l1 = some true := by
  refine ⟨l0.length + l1.length + 11, ?_⟩
  unfold laws_FnExactTokenLess.f
  rw [szEntryS_is l0 b0.1 _ (by decide) (by decide)]
  simp only [Option.bind_some]
  by_cases h : (1048576 : Int) < l0.length
  · rw [if_pos h, if_pos (by decide)]
  · have hn : l0.length ≤ 1048576 := by omega
    rw [if_neg h, if_neg (by omega), szEntryS_is l1 b1.1 _ (by omega) (by omega)]
    simp only [Option.bind_some]
    by_cases h' : (1048576 - l0.length : Int) < l1.length
    · rw [if_pos h', if_pos (by decide)]
    · have hn' : l1.length ≤ 1048576 := by omega
      rw [if_neg h', if_neg (by omega), toEntryS_is l0 hn _ (by omega)]
      simp only [Option.bind_some]
      rw [toEntryS_is l1 hn' _ (by omega)]
      simp only [Option.bind_some]
      rw [specTokenLess_is _ _ _ (by omega), implTokenLess_is]
      simp only [Option.bind_some, bne_self_eq_false, Bool.false_eq_true, if_false]
      rw [eqEntryS_self (l0.map cvE) (by simp; omega) _ (by simp; omega)]
      simp only [Option.bind_some, if_true]
      rw [eqEntryS_self (l1.map cvE) (by simp; omega) _ (by simp; omega)]
      rfl

end Go.Proofs.Ytojlcngdcodgbaa.PureFnExactTokenLess
