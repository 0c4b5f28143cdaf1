/- The program's TokenWith and the reference's return the same for all arguments, leave them alone, and return memory of their own: the law's function returns true. Conditions: none. -/
import Derived.Test.YtojlcngdcodgbaaQx0
import Derived.Test.YtojlcngdcodgbaaQx2
import Derived.Test.YtojlcngdcodgbaaQx3
import Derived.Test.YtojlcngdcodgbaaQx4
import Derived.Test.YtojlcngdcodgbaaQx5
import Derived.Test.YtojlcngdcodgbaaQx7
import Derived.Test.YtojlcngdcodgbaaQx8
import Derived.Test.YtojlcngdcodgbaaQx9
import Derived.Test.YtojlcngdcodgbaaQx11
import Derived.Test.YtojlcngdcodgbaaQx12
import Derived.Test.YtojlcngdcodgbaaQx13
import Derived.Test.YtojlcngdcodgbaaQx14
import Derived.Test.YtojlcngdcodgbaaQx15
import Derived.Test.YtojlcngdcodgbaaQx16
import Derived.Test.YtojlcngdcodgbaaMath
namespace Go.Proofs.Ytojlcngdcodgbaa.PureFnExactTokenWith
open Go.RowKit Go.Proofs.Ytojlcngdcodgbaa Go.Proofs.Ytojlcngdcodgbaa.Q Go.Proofs.YtojlcngdcodgbaaW.PrintWords Go.Proofs.YtojlcngdcodgbaaW.PrintLast
set_option linter.unusedVariables false
set_option linter.unusedSimpArgs false

def cvE (x : S44) : S38 := ⟨x.f0, x.f1⟩
theorem rd38 (l : List S38) (i : Int) (h0 : 0 ≤ i) (h1 : i < l.length) : ∃ h : i.toNat < l.length, rd_T38 l i = l[i.toNat] := by
  have h : i.toNat < l.length := by omega
  refine ⟨h, ?_⟩
  unfold rd_T38
  simp [List.getD_eq_getElem?_getD, h]
theorem rd44 (l : List S44) (i : Int) (h0 : 0 ≤ i) (h1 : i < l.length) : ∃ h : i.toNat < l.length, rd_T44 l i = l[i.toNat] := by
  have h : i.toNat < l.length := by omega
  refine ⟨h, ?_⟩
  unfold rd_T44
  simp [List.getD_eq_getElem?_getD, h]
theorem toEntryS_loop (l : List S44) (hn : l.length ≤ 1048576) (d : Nat) : ∀ (k : Nat) (i : Int), 0 ≤ i → i ≤ l.length → (l.length : Int) - i = d → d < k →
    laws_toEntryS.l0 k l ((l.take i.toNat).map cvE ++ List.replicate d z38) i = some (l.map cvE) := by
  induction d with
  | zero =>
    intro k i h0 h1 hd hk
    obtain ⟨k, rfl⟩ : ∃ m, k = m + 1 := ⟨k - 1, by omega⟩
    simp only [laws_toEntryS.l0]
    rw [if_neg (by omega), List.take_of_length_le (by omega)]
    simp
  | succ d ih =>
    intro k i h0 h1 hd hk
    obtain ⟨k, rfl⟩ : ∃ m, k = m + 1 := ⟨k - 1, by omega⟩
    simp only [laws_toEntryS.l0]
    have hlen : ((l.take i.toNat).map cvE ++ List.replicate (d + 1) z38).length = l.length := by
      rw [List.length_append, List.length_map, List.length_take, List.length_replicate]; omega
    obtain ⟨hi, e⟩ := rd44 l i h0 (by omega)
    rw [if_pos (by omega), if_pos h0, e]
    simp only [laws_toEntry.f, Option.bind_some]
    rw [if_pos (by rw [hlen]; omega), Math.w64_id (by omega) (by omega)]
    have e : ((l.take i.toNat).map cvE ++ List.replicate (d + 1) z38).set i.toNat (⟨l[i.toNat].f0, l[i.toNat].f1⟩ : S38) = (l.take (i + 1).toNat).map cvE ++ List.replicate d z38 := by
      rw [show (i + 1).toNat = i.toNat + 1 by omega, List.take_succ_eq_append_getElem hi, List.set_append, if_neg (by rw [List.length_map, List.length_take]; omega), List.length_map, List.length_take, Nat.min_eq_left (by omega), Nat.sub_self]
      simp only [List.replicate_succ, List.set_cons_zero, List.map_append, List.map_cons, List.map_nil]
      rw [List.append_assoc]
      rfl
    rw [e]
    exact ih k (i + 1) (by omega) (by omega) (by omega) (by omega)
theorem toEntryS_is (l : List S44) (hn : l.length ≤ 1048576) (k : Nat) (hk : l.length < k) : laws_toEntryS.f k l = some (l.map cvE) := by
  unfold laws_toEntryS.f
  rw [if_pos (by omega), if_pos (by omega)]
  have := toEntryS_loop l hn l.length k 0 (by omega) (by omega) (by omega) hk
  simpa using this
theorem eqEntryS_self (l : List S38) (hn : l.length ≤ 9007199254740992) (k : Nat) (hk : l.length < k) : laws_eqEntryS.f k l l = some true := by
  have key : ∀ (d k : Nat) (i : Int), 0 ≤ i → i ≤ l.length → (l.length : Int) - i = d → d < k → laws_eqEntryS.l0 k l l i = some true := by
    intro d
    induction d with
    | zero =>
      intro k i h0 h1 hd hk
      obtain ⟨k, rfl⟩ : ∃ m, k = m + 1 := ⟨k - 1, by omega⟩
      simp only [laws_eqEntryS.l0]
      rw [if_neg (by omega)]
    | succ d ih =>
      intro k i h0 h1 hd hk
      obtain ⟨k, rfl⟩ : ∃ m, k = m + 1 := ⟨k - 1, by omega⟩
      simp only [laws_eqEntryS.l0]
      rw [if_pos (by omega), if_pos h0, if_pos (by omega)]
      simp only [laws_eqEntry.f, if_true, Option.bind_some]
      rw [Math.w64_id (by omega) (by omega)]
      exact ih k (i + 1) (by omega) (by omega) (by omega) (by omega)
  unfold laws_eqEntryS.f
  rw [if_pos rfl]
  exact key l.length k 0 (by omega) (by omega) (by omega) hk
/-- A right token. -/
def okT (l : List S38) : Bool := decide (l.length ≤ 3) && l.all impl_TokenOk.ok
theorem specTokenOk_is (l : List S38) (k : Nat) (hk : 4 ≤ k) : spec_TokenOk.f k l = some (okT l) := by
  unfold spec_TokenOk.f okT
  by_cases h3 : (l.length : Int) > 3
  · rw [if_pos h3, decide_eq_false (by omega)]; rfl
  · rw [if_neg h3, decide_eq_true (show l.length ≤ 3 by omega), Bool.true_and]
    have key : ∀ (d k : Nat) (i : Int), 0 ≤ i → i ≤ l.length → (l.length : Int) - i = d → d < k → spec_TokenOk.l0 k l i = some ((l.drop i.toNat).all impl_TokenOk.ok) := by
      intro d
      induction d with
      | zero =>
        intro k i h0 h1 hd hk
        obtain ⟨k, rfl⟩ : ∃ m, k = m + 1 := ⟨k - 1, by omega⟩
        simp only [spec_TokenOk.l0]
        rw [if_neg (by omega), List.drop_of_length_le (by omega)]
        rfl
      | succ d ih =>
        intro k i h0 h1 hd hk
        obtain ⟨k, rfl⟩ : ∃ m, k = m + 1 := ⟨k - 1, by omega⟩
        obtain ⟨hi, e⟩ := rd38 l i h0 (by omega)
        simp only [spec_TokenOk.l0]
        rw [if_pos (by omega), if_pos h0, e, List.drop_eq_getElem_cons hi, List.all_cons]
        have hn := ih k (i + 1) (by omega) (by omega) (by omega) (by omega)
        rw [show (i + 1).toNat = i.toNat + 1 by omega] at hn
        rw [Math.w64_id (by omega) (by omega), hn]
        generalize l[i.toNat] = x
        unfold spec_l1In.f impl_TokenOk.ok
        by_cases g1 : 0 ≤ x.f0 <;> by_cases g2 : x.f0 ≤ 29 <;> by_cases g3 : 0 ≤ x.f1 <;> by_cases g4 : x.f1 ≤ 4 <;> simp [g1, g2, g3, g4]
    have := key l.length k 0 (by omega) (by omega) (by omega) (by omega)
    simpa using this
theorem implTokenOk_is (l : List S38) : impl_TokenOk.f l = some (okT l) := rfl
theorem szEntryS_is (l : List S44) (hl : l.length ≤ 9223372036854775807) (a : Int) (h0 : 0 ≤ a) (h1 : a ≤ 1048576) : laws_szEntryS.f l a = some (if a < l.length then -1 else a - l.length) := by
  unfold laws_szEntryS.f
  rw [Math.w64_id (x := a - (l.length : Int)) (by omega) (by omega)]
  by_cases h : a < l.length
  · rw [if_pos h, if_pos (by omega)]
  · rw [if_neg h, if_neg (by omega)]

/-- A token with one more entry. -/
def withV (l : List S38) (a b : Int) : List S38 := if okT l && okT [⟨a, b⟩] then (if l.length < 3 then l ++ [⟨a, b⟩] else l) else []
theorem okT_len {l : List S38} (h : okT l = true) : l.length ≤ 3 := by
  unfold okT at h
  rw [Bool.and_eq_true] at h
  exact of_decide_eq_true h.1
theorem withV_len (l : List S38) (a b : Int) : (withV l a b).length ≤ 3 := by
  unfold withV
  by_cases h : (okT l && okT [⟨a, b⟩]) = true
  · rw [if_pos h]
    rw [Bool.and_eq_true] at h
    have := okT_len h.1
    by_cases h2 : l.length < 3
    · rw [if_pos h2]; simp; omega
    · rw [if_neg h2]; exact this
  · rw [if_neg h]; simp
theorem specTokenWith_is (l : List S38) (a b : Int) (k : Nat) (hk : 5 ≤ k) : spec_TokenWith.f k l a b = some (withV l a b) := by
  obtain ⟨k, rfl⟩ : ∃ m, k = m + 5 := ⟨k - 5, by omega⟩
  unfold spec_TokenWith.f withV
  rw [specTokenOk_is _ _ (by omega)]
  simp only [Option.bind_some]
  cases h1 : okT l with
  | false => rw [if_neg (by decide), spec_TokenWith.j0, if_pos rfl]; rfl
  | true =>
    have hl := okT_len h1
    rw [if_pos rfl, specTokenOk_is _ _ (by omega)]
    simp only [Option.bind_some]
    cases h2 : okT [⟨a, b⟩] with
    | false => rw [spec_TokenWith.j0]; rfl
    | true =>
      rw [spec_TokenWith.j0]
      simp only [Bool.not_true, Bool.false_eq_true, if_false, Option.bind_some, List.nil_append, List.length_nil, Bool.and_self, if_true]
      rw [if_pos (by omega)]
      by_cases h3 : l.length < 3
      · rw [if_pos h3, if_pos (by omega), if_pos (by omega)]
      · rw [if_neg h3, if_neg (by omega)]
theorem implTokenWith_is (l : List S38) (a b : Int) (k : Nat) (hk : 5 ≤ k) : impl_TokenWith.f k l a b = some (withV l a b) := by
  obtain ⟨k, rfl⟩ : ∃ m, k = m + 5 := ⟨k - 5, by omega⟩
  unfold impl_TokenWith.f withV
  rw [implTokenOk_is]
  simp only [Option.bind_some]
  cases h1 : okT l with
  | false => rw [if_neg (by decide), impl_TokenWith.j0, if_pos rfl]; rfl
  | true =>
    have hl := okT_len h1
    rw [if_pos rfl, implTokenOk_is]
    simp only [Option.bind_some]
    cases h2 : okT [⟨a, b⟩] with
    | false => rw [impl_TokenWith.j0]; rfl
    | true =>
      rw [impl_TokenWith.j0]
      simp only [Bool.not_true, Bool.false_eq_true, if_false, Bool.and_self, if_true]
      rw [show impl_Entry.f l = some l from if_pos (by omega)]
      simp only [Option.bind_some]
      by_cases h3 : l.length < 3
      · rw [if_pos h3, if_pos (by omega), if_pos (by omega)]
      · rw [if_neg h3, if_neg (by omega)]

def markE (i : Nat) : S38 := ⟨1 + 2 * (i : Int), 2 + 2 * (i : Int)⟩
theorem mark_loop (n : Nat) (hn : n ≤ 1048576) (d : Nat) : ∀ (k : Nat) (i : Nat) (l : List S38), i + d = n → l.length = n → (∀ j (h : j < l.length), j < i → l[j] = markE j) → d < k →
    laws_markEntryS.l0 k l (1 + 2 * (i : Int)) i = some (1 + 2 * (n : Int), (List.range n).map markE) := by
  induction d with
  | zero =>
    intro k i l hi hl hm hk
    obtain ⟨k, rfl⟩ : ∃ m, k = m + 1 := ⟨k - 1, by omega⟩
    simp only [laws_markEntryS.l0]
    rw [if_neg (by omega), show i = n by omega]
    have : l = (List.range n).map markE := by
      apply List.ext_getElem (by simp [hl])
      intro j h1 h2
      rw [hm j h1 (by omega)]
      simp
    rw [this]
  | succ d ih =>
    intro k i l hi hl hm hk
    obtain ⟨k, rfl⟩ : ∃ m, k = m + 1 := ⟨k - 1, by omega⟩
    simp only [laws_markEntryS.l0, Option.bind_some]
    rw [if_pos (by omega), if_pos (by omega), Int.toNat_natCast]
    have e1 : (rd_T38 (l.set i (⟨1 + 2 * (i : Int), (rd_T38 l (i : Int)).f1⟩ : S38)) (i : Int)).f0 = 1 + 2 * (i : Int) := by
      obtain ⟨h, e⟩ := rd38 (l.set i (⟨1 + 2 * (i : Int), (rd_T38 l (i : Int)).f1⟩ : S38)) (i : Int) (by omega) (by rw [List.length_set]; omega)
      rw [e]
      simp
    rw [e1, List.set_set, Math.w64_id (x := 1 + 2 * (i : Int) + 1) (by omega) (by omega), Math.w64_id (x := 1 + 2 * (i : Int) + 1 + 1) (by omega) (by omega), Math.w64_id (x := (i : Int) + 1) (by omega) (by omega)]
    have := ih k (i + 1) (l.set i ⟨1 + 2 * (i : Int), 1 + 2 * (i : Int) + 1⟩) (by omega) (by rw [List.length_set]; exact hl) (fun j h hj => by
      rw [List.getElem_set]
      by_cases e : i = j
      · subst e; rw [if_pos rfl]; unfold markE; rw [show 1 + 2 * (i : Int) + 1 = 2 + 2 * (i : Int) by omega]
      · rw [if_neg e]; exact hm j (by rw [List.length_set] at h; exact h) (by omega)) (by omega)
    rw [show (1 + 2 * ((i + 1 : Nat) : Int)) = 1 + 2 * (i : Int) + 1 + 1 by omega, show ((i + 1 : Nat) : Int) = (i : Int) + 1 by omega] at this
    exact this
theorem mark_is (l : List S38) (hn : l.length ≤ 1048576) (k : Nat) (hk : l.length < k) : laws_markEntryS.f k l 1 = some (1 + 2 * (l.length : Int), (List.range l.length).map markE) := by
  unfold laws_markEntryS.f
  exact mark_loop l.length hn l.length k 0 l (by omega) rfl (fun j _ h => absurd h (by omega)) hk
theorem held_loop (n : Nat) (hn : n ≤ 1048576) (d : Nat) : ∀ (k : Nat) (i : Nat), i + d = n → d < k → laws_heldEntryS.l0 k ((List.range n).map markE) (1 + 2 * (i : Int)) i = some (1 + 2 * (n : Int)) := by
  induction d with
  | zero =>
    intro k i hi hk
    obtain ⟨k, rfl⟩ : ∃ m, k = m + 1 := ⟨k - 1, by omega⟩
    simp only [laws_heldEntryS.l0]
    rw [if_neg (by simp; omega), show i = n by omega]
  | succ d ih =>
    intro k i hi hk
    obtain ⟨k, rfl⟩ : ∃ m, k = m + 1 := ⟨k - 1, by omega⟩
    simp only [laws_heldEntryS.l0]
    obtain ⟨h, e⟩ := rd38 ((List.range n).map markE) (i : Int) (by omega) (by simp; omega)
    have e' : rd_T38 ((List.range n).map markE) (i : Int) = markE i := by rw [e]; simp
    rw [if_pos (by simp; omega), if_pos (by omega), e', Math.w64_id (x := 1 + 2 * (i : Int) + 1) (by omega) (by omega), Math.w64_id (x := 1 + 2 * (i : Int) + 1 + 1) (by omega) (by omega), Math.w64_id (x := (i : Int) + 1) (by omega) (by omega)]
    rw [if_pos (show (markE i).f0 = 1 + 2 * (i : Int) from rfl), if_pos (show (markE i).f1 = 1 + 2 * (i : Int) + 1 by unfold markE; show 2 + 2 * (i : Int) = _; omega)]
    have := ih k (i + 1) (by omega) (by omega)
    rw [show (1 + 2 * ((i + 1 : Nat) : Int)) = 1 + 2 * (i : Int) + 1 + 1 by omega, show ((i + 1 : Nat) : Int) = (i : Int) + 1 by omega] at this
    exact this
theorem held_is (n : Nat) (hn : n ≤ 1048576) (k : Nat) (hk : n < k) : laws_heldEntryS.f k ((List.range n).map markE) 1 = some (1 + 2 * (n : Int)) := by
  unfold laws_heldEntryS.f
  exact held_loop n hn n k 0 (by omega) hk

theorem FnExactTokenWith (l0 : List S44) (a1 a2 : Int) (b0 : l0.length ≤ 9223372036854775807 ∧ ∀ x ∈ l0, (-9223372036854775808 ≤ x.f0 ∧ x.f0 ≤ 9223372036854775807) ∧ (-9223372036854775808 ≤ x.f1 ∧ x.f1 ≤ 9223372036854775807)) (b1 : -9223372036854775808 ≤ a1 ∧ a1 ≤ 9223372036854775807) (b2 : -9223372036854775808 ≤ a2 ∧ a2 ≤ 9223372036854775807) : ∃ k, laws_FnExactTokenWith.f k l0 a1 a2 = some true := by
  refine ⟨l0.length + 11, ?_⟩
  unfold laws_FnExactTokenWith.f
  rw [szEntryS_is l0 b0.1 _ (by decide) (by decide)]
  simp only [Option.bind_some]
  by_cases h : (1048576 : Int) < l0.length
  · rw [if_pos h, if_pos (by decide)]
  · have hn : l0.length ≤ 1048576 := by omega
    rw [if_neg h, if_neg (by omega), toEntryS_is l0 hn _ (by omega)]
    simp only [Option.bind_some]
    have hl := withV_len (l0.map cvE) a1 a2
    rw [specTokenWith_is _ _ _ _ (by omega), implTokenWith_is _ _ _ _ (by omega)]
    simp only [Option.bind_some]
    generalize hw : withV (l0.map cvE) a1 a2 = t at hl
    rw [eqEntryS_self t (by omega) _ (by omega)]
    simp only [Option.bind_some, if_true]
    rw [eqEntryS_self (l0.map cvE) (by simp; omega) _ (by simp), mark_is (l0.map cvE) (by simp; omega) _ (by simp)]
    simp only [Option.bind_some, if_true, Bool.not_true]
    rw [if_neg (by omega), laws_FnExactTokenWith.j0]
    simp only [Bool.false_eq_true, if_false]
    rw [mark_is t (by omega) _ (by omega)]
    simp only [Option.bind_some]
    rw [held_is t.length (by omega) _ (by omega), toEntryS_is l0 hn _ (by omega)]
    simp only [Option.bind_some, if_true]
    rw [if_neg (by omega), implTokenWith_is _ _ _ _ (by omega), hw]
    simp only [Option.bind_some]
    rw [eqEntryS_self t (by omega) _ (by omega)]
    simp only [Option.bind_some, if_true]
    rw [if_neg (by omega)]

end Go.Proofs.Ytojlcngdcodgbaa.PureFnExactTokenWith
