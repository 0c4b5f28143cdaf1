/- The program's ExprOk and the reference's return the same for all arguments, and leave them alone: the law's function returns true. Conditions: none. -/
import Derived.Test.YtcomagipdbdglaaDoorQx0
import Derived.Test.YtcomagipdbdglaaDoorQx1
import Derived.Test.YtcomagipdbdglaaDoorQx2
import Derived.Test.YtcomagipdbdglaaDoorQx3
import Derived.Test.YtcomagipdbdglaaDoorQx4
import Derived.Test.YtcomagipdbdglaaDoorQx5
import Derived.Test.YtcomagipdbdglaaDoorQx6
import Derived.Test.YtcomagipdbdglaaDoorQx7
import Derived.Test.YtcomagipdbdglaaDoorQx8
import Derived.Test.YtcomagipdbdglaaDoorQx9
import Derived.Test.YtcomagipdbdglaaDoorQx10
import Derived.Test.YtcomagipdbdglaaDoorQx11
import Derived.Test.YtcomagipdbdglaaDoorQx12
import Derived.Test.YtcomagipdbdglaaDoorQx13
import Derived.Test.YtcomagipdbdglaaDoorQx14
import Derived.Test.YtcomagipdbdglaaDoorQx15
import Derived.Test.YtcomagipdbdglaaDoorQx16
import Derived.Test.YtcomagipdbdglaaDoorQx18
import Derived.Test.YtcomagipdbdglaaDoorQx20
import Derived.Test.YtcomagipdbdglaaDoorQx25
import Derived.Test.YtcomagipdbdglaaDoorQx26
import Derived.Test.YtcomagipdbdglaaDoorQx27
import Derived.Test.YtcomagipdbdglaaDoorQx28
import Derived.Test.YtcomagipdbdglaaDoorMath
namespace Go.Proofs.YtcomagipdbdglaaDoor.PureFnExactExprOk
open Go.RowKit Go.Proofs.YtcomagipdbdglaaDoor Go.Proofs.YtcomagipdbdglaaDoor.Q Go.Proofs.YtcomagipdbdglaaDoorW.PrintWords Go.Proofs.YtcomagipdbdglaaDoorW.PrintLast
set_option linter.unusedVariables false
set_option linter.unusedSimpArgs false

def cvA (x : S141) : S91 := ⟨x.f0, x.f1⟩
theorem rdS (l : List ByteArray) (i : Int) (h0 : 0 ≤ i) (h1 : i < l.length) : ∃ h : i.toNat < l.length, rdOf ByteArray.empty l i = l[i.toNat] := by
  have h : i.toNat < l.length := by omega
  refine ⟨h, ?_⟩
  unfold rdOf
  simp [List.getD_eq_getElem?_getD, h]
theorem rd91 (l : List S91) (i : Int) (h0 : 0 ≤ i) (h1 : i < l.length) : ∃ h : i.toNat < l.length, rd_T91 l i = l[i.toNat] := by
  have h : i.toNat < l.length := by omega
  refine ⟨h, ?_⟩
  unfold rd_T91
  simp [List.getD_eq_getElem?_getD, h]
theorem rd141 (l : List S141) (i : Int) (h0 : 0 ≤ i) (h1 : i < l.length) : ∃ h : i.toNat < l.length, rd_T141 l i = l[i.toNat] := by
  have h : i.toNat < l.length := by omega
  refine ⟨h, ?_⟩
  unfold rd_T141
  simp [List.getD_eq_getElem?_getD, h]
def OkS (l : List ByteArray) : Prop := l.length ≤ 9223372036854775807 ∧ ∀ x ∈ l, x.size ≤ 9223372036854775807
def OkA (l : List S141) : Prop := l.length ≤ 9223372036854775807 ∧ ∀ x ∈ l, x.f0.size ≤ 9223372036854775807
def FitS (l : List ByteArray) : Prop := l.length ≤ 1048576 ∧ ∀ x ∈ l, x.size ≤ 1048576
def FitA (l : List S141) : Prop := l.length ≤ 1048576 ∧ ∀ x ∈ l, x.f0.size ≤ 1048576
theorem szStringS_loop (l : List ByteArray) (b : OkS l) : ∀ (d k : Nat) (i a : Int), 0 ≤ i → i ≤ l.length → (l.length : Int) - i = d → d < k → 0 ≤ a → a ≤ 1048576 →
    ∃ t, laws_szStringS.l0 k l a i = some t ∧ t ≤ a ∧ (0 ≤ t → ∀ (j : Nat) (h : j < l.length), i ≤ j → l[j].size ≤ 1048576) := by
  intro d
  induction d with
  | zero =>
    intro k i a h0 h1 hd hk ha hb
    obtain ⟨k, rfl⟩ : ∃ m, k = m + 1 := ⟨k - 1, by omega⟩
    simp only [laws_szStringS.l0]
    rw [if_neg (by omega)]
    exact ⟨a, rfl, Int.le_refl _, fun _ j h hj => absurd h (by omega)⟩
  | succ d ih =>
    intro k i a h0 h1 hd hk ha hb
    obtain ⟨k, rfl⟩ : ∃ m, k = m + 1 := ⟨k - 1, by omega⟩
    simp only [laws_szStringS.l0]
    obtain ⟨hi, e⟩ := rdS l i h0 (by omega)
    have hs := b.2 _ (List.getElem_mem hi)
    rw [if_pos (by omega), if_pos h0, e, Math.w64_id (by omega) (by omega), Math.w64_id (by omega) (by have := b.1; omega)]
    by_cases hn : a - (l[i.toNat].size : Int) < 0
    · rw [if_pos hn]
      exact ⟨-1, rfl, by omega, fun h => absurd h (by decide)⟩
    · rw [if_neg hn]
      obtain ⟨t, e1, e2, e3⟩ := ih k (i + 1) (a - (l[i.toNat].size : Int)) (by omega) (by omega) (by omega) (by omega) (by omega) (by omega)
      refine ⟨t, e1, by omega, fun ht j h hj => ?_⟩
      by_cases hj' : (j : Int) = i
      · obtain rfl : j = i.toNat := by omega
        omega
      · exact e3 ht j h (by omega)
theorem szStringS_is (l : List ByteArray) (b : OkS l) (k : Nat) (hk : l.length < k) (a : Int) (ha : 0 ≤ a) (hb : a ≤ 1048576) :
    ∃ t, laws_szStringS.f k l a = some t ∧ t ≤ a ∧ (0 ≤ t → FitS l) := by
  unfold laws_szStringS.f
  rw [Math.w64_id (by have := b.1; omega) (by omega)]
  by_cases hn : a - (l.length : Int) < 0
  · rw [if_pos hn]
    exact ⟨-1, rfl, by omega, fun h => absurd h (by decide)⟩
  · rw [if_neg hn]
    obtain ⟨t, e1, e2, e3⟩ := szStringS_loop l b l.length k 0 (a - (l.length : Int)) (by omega) (by omega) (by omega) hk (by omega) (by omega)
    refine ⟨t, e1, by omega, fun ht => ⟨by omega, fun x hx => ?_⟩⟩
    obtain ⟨j, hj, rfl⟩ := List.getElem_of_mem hx
    exact e3 ht j hj (by omega)
theorem szArrS_loop (l : List S141) (b : OkA l) : ∀ (d k : Nat) (i a : Int), 0 ≤ i → i ≤ l.length → (l.length : Int) - i = d → d < k → 0 ≤ a → a ≤ 1048576 →
    ∃ t, laws_szArrS.l0 k l a i = some t ∧ t ≤ a ∧ (0 ≤ t → ∀ (j : Nat) (h : j < l.length), i ≤ j → l[j].f0.size ≤ 1048576) := by
  intro d
  induction d with
  | zero =>
    intro k i a h0 h1 hd hk ha hb
    obtain ⟨k, rfl⟩ : ∃ m, k = m + 1 := ⟨k - 1, by omega⟩
    simp only [laws_szArrS.l0]
    rw [if_neg (by omega)]
    exact ⟨a, rfl, Int.le_refl _, fun _ j h hj => absurd h (by omega)⟩
  | succ d ih =>
    intro k i a h0 h1 hd hk ha hb
    obtain ⟨k, rfl⟩ : ∃ m, k = m + 1 := ⟨k - 1, by omega⟩
    simp only [laws_szArrS.l0]
    obtain ⟨hi, e⟩ := rd141 l i h0 (by omega)
    have hs := b.2 _ (List.getElem_mem hi)
    rw [if_pos (by omega), if_pos h0, e, Math.w64_id (x := i + 1) (by omega) (by have := b.1; omega)]
    unfold laws_szArr.f
    rw [Math.w64_id (by omega) (by omega)]
    by_cases hn : a - (l[i.toNat].f0.size : Int) < 0
    · rw [if_pos hn]
      exact ⟨-1, rfl, by omega, fun h => absurd h (by decide)⟩
    · rw [if_neg hn]
      simp only [Option.bind_some]
      rw [if_neg hn]
      obtain ⟨t, e1, e2, e3⟩ := ih k (i + 1) (a - (l[i.toNat].f0.size : Int)) (by omega) (by omega) (by omega) (by omega) (by omega) (by omega)
      refine ⟨t, e1, by omega, fun ht j h hj => ?_⟩
      by_cases hj' : (j : Int) = i
      · obtain rfl : j = i.toNat := by omega
        omega
      · exact e3 ht j h (by omega)
theorem szArrS_is (l : List S141) (b : OkA l) (k : Nat) (hk : l.length < k) (a : Int) (ha : 0 ≤ a) (hb : a ≤ 1048576) :
    ∃ t, laws_szArrS.f k l a = some t ∧ t ≤ a ∧ (0 ≤ t → FitA l) := by
  unfold laws_szArrS.f
  rw [Math.w64_id (by have := b.1; omega) (by omega)]
  by_cases hn : a - (l.length : Int) < 0
  · rw [if_pos hn]
    exact ⟨-1, rfl, by omega, fun h => absurd h (by decide)⟩
  · rw [if_neg hn]
    obtain ⟨t, e1, e2, e3⟩ := szArrS_loop l b l.length k 0 (a - (l.length : Int)) (by omega) (by omega) (by omega) hk (by omega) (by omega)
    refine ⟨t, e1, by omega, fun ht => ⟨by omega, fun x hx => ?_⟩⟩
    obtain ⟨j, hj, rfl⟩ := List.getElem_of_mem hx
    exact e3 ht j hj (by omega)
theorem szDecl_is (l0 l1 : List ByteArray) (l2 : List S141) (b0 : OkS l0) (b1 : OkS l1) (b2 : OkA l2) (k : Nat) (h0 : l0.length < k) (h1 : l1.length < k) (h2 : l2.length < k) (a : Int) (ha : 0 ≤ a) (hb : a ≤ 1048576) :
    ∃ t, laws_szDecl.f k l0 l1 l2 a = some t ∧ t ≤ a ∧ (0 ≤ t → FitS l0 ∧ FitS l1 ∧ FitA l2) := by
  obtain ⟨t0, e0, f0, g0⟩ := szStringS_is l0 b0 k h0 a ha hb
  unfold laws_szDecl.f
  rw [e0, Option.bind_some]
  by_cases n0 : t0 < 0
  · rw [if_pos n0]; exact ⟨-1, rfl, by omega, fun h => absurd h (by decide)⟩
  rw [if_neg n0]
  obtain ⟨t1, e1, f1, g1⟩ := szStringS_is l1 b1 k h1 t0 (by omega) (by omega)
  rw [e1, Option.bind_some]
  by_cases n1 : t1 < 0
  · rw [if_pos n1]; exact ⟨-1, rfl, by omega, fun h => absurd h (by decide)⟩
  rw [if_neg n1]
  obtain ⟨t2, e2, f2, g2⟩ := szArrS_is l2 b2 k h2 t1 (by omega) (by omega)
  rw [e2, Option.bind_some]
  by_cases n2 : t2 < 0
  · rw [if_pos n2]; exact ⟨-1, rfl, by omega, fun h => absurd h (by decide)⟩
  rw [if_neg n2]
  exact ⟨t2, rfl, by omega, fun _ => ⟨g0 (by omega), g1 (by omega), g2 (by omega)⟩⟩
theorem toStringS_loop (l : List ByteArray) (hn : l.length ≤ 1048576) (d : Nat) : ∀ (k : Nat) (i : Int), 0 ≤ i → i ≤ l.length → (l.length : Int) - i = d → d < k →
    laws_toStringS.l0 k l (l.take i.toNat ++ List.replicate d (⟨#[]⟩ : ByteArray)) i = some l := by
  induction d with
  | zero =>
    intro k i h0 h1 hd hk
    obtain ⟨k, rfl⟩ : ∃ m, k = m + 1 := ⟨k - 1, by omega⟩
    simp only [laws_toStringS.l0]
    rw [if_neg (by omega), List.take_of_length_le (by omega)]
    simp
  | succ d ih =>
    intro k i h0 h1 hd hk
    obtain ⟨k, rfl⟩ : ∃ m, k = m + 1 := ⟨k - 1, by omega⟩
    simp only [laws_toStringS.l0]
    have hlen : (l.take i.toNat ++ List.replicate (d + 1) (⟨#[]⟩ : ByteArray)).length = l.length := by
      rw [List.length_append, List.length_take, List.length_replicate]; omega
    obtain ⟨hi, e⟩ := rdS l i h0 (by omega)
    rw [if_pos (by omega), if_pos h0, e]
    rw [if_pos (by rw [hlen]; omega), Math.w64_id (by omega) (by omega)]
    have e : (l.take i.toNat ++ List.replicate (d + 1) (⟨#[]⟩ : ByteArray)).set i.toNat l[i.toNat] = l.take (i + 1).toNat ++ List.replicate d (⟨#[]⟩ : ByteArray) := by
      rw [show (i + 1).toNat = i.toNat + 1 by omega, List.take_succ_eq_append_getElem hi, List.set_append, if_neg (by rw [List.length_take]; omega), List.length_take, Nat.min_eq_left (by omega), Nat.sub_self]
      simp only [List.replicate_succ, List.set_cons_zero]
      rw [List.append_assoc]
      rfl
    rw [e]
    exact ih k (i + 1) (by omega) (by omega) (by omega) (by omega)
theorem toStringS_is (l : List ByteArray) (hn : l.length ≤ 1048576) (k : Nat) (hk : l.length < k) : laws_toStringS.f k l = some l := by
  unfold laws_toStringS.f
  rw [if_pos (by omega), if_pos (by omega)]
  have := toStringS_loop l hn l.length k 0 (by omega) (by omega) (by omega) hk
  simpa using this
theorem toArrS_loop (l : List S141) (hn : l.length ≤ 1048576) (d : Nat) : ∀ (k : Nat) (i : Int), 0 ≤ i → i ≤ l.length → (l.length : Int) - i = d → d < k →
    laws_toArrS.l0 k l ((l.take i.toNat).map cvA ++ List.replicate d z91) i = some (l.map cvA) := by
  induction d with
  | zero =>
    intro k i h0 h1 hd hk
    obtain ⟨k, rfl⟩ : ∃ m, k = m + 1 := ⟨k - 1, by omega⟩
    simp only [laws_toArrS.l0]
    rw [if_neg (by omega), List.take_of_length_le (by omega)]
    simp
  | succ d ih =>
    intro k i h0 h1 hd hk
    obtain ⟨k, rfl⟩ : ∃ m, k = m + 1 := ⟨k - 1, by omega⟩
    simp only [laws_toArrS.l0]
    have hlen : ((l.take i.toNat).map cvA ++ List.replicate (d + 1) z91).length = l.length := by
      rw [List.length_append, List.length_map, List.length_take, List.length_replicate]; omega
    obtain ⟨hi, e⟩ := rd141 l i h0 (by omega)
    rw [if_pos (by omega), if_pos h0, e]
    simp only [laws_toArr.f, Option.bind_some]
    rw [if_pos (by rw [hlen]; omega), Math.w64_id (by omega) (by omega)]
    have e : ((l.take i.toNat).map cvA ++ List.replicate (d + 1) z91).set i.toNat (⟨l[i.toNat].f0, l[i.toNat].f1⟩ : S91) = (l.take (i + 1).toNat).map cvA ++ List.replicate d z91 := by
      rw [show (i + 1).toNat = i.toNat + 1 by omega, List.take_succ_eq_append_getElem hi, List.set_append, if_neg (by rw [List.length_map, List.length_take]; omega), List.length_map, List.length_take, Nat.min_eq_left (by omega), Nat.sub_self]
      simp only [List.replicate_succ, List.set_cons_zero, List.map_append, List.map_cons, List.map_nil]
      rw [List.append_assoc]
      rfl
    rw [e]
    exact ih k (i + 1) (by omega) (by omega) (by omega) (by omega)
theorem toArrS_is (l : List S141) (hn : l.length ≤ 1048576) (k : Nat) (hk : l.length < k) : laws_toArrS.f k l = some (l.map cvA) := by
  unfold laws_toArrS.f
  rw [if_pos (by omega), if_pos (by omega)]
  have := toArrS_loop l hn l.length k 0 (by omega) (by omega) (by omega) hk
  simpa using this
theorem toDecl_is (l0 l1 : List ByteArray) (l2 : List S141) (b0 : FitS l0) (b1 : FitS l1) (b2 : FitA l2) (k : Nat) (hk : 1048576 < k) : laws_toDecl.f k l0 l1 l2 = some (l0, l1, l2.map cvA) := by
  unfold laws_toDecl.f
  rw [toStringS_is l0 b0.1 k (by have := b0.1; omega), Option.bind_some, toStringS_is l1 b1.1 k (by have := b1.1; omega), Option.bind_some, toArrS_is l2 b2.1 k (by have := b2.1; omega)]
  rfl
theorem eqStringS_self (l : List ByteArray) (hn : l.length ≤ 1048576) (k : Nat) (hk : l.length < k) : laws_eqStringS.f k l l = some true := by
  have key : ∀ (d k : Nat) (i : Int), 0 ≤ i → i ≤ l.length → (l.length : Int) - i = d → d < k → laws_eqStringS.l0 k l l i = some true := by
    intro d
    induction d with
    | zero =>
      intro k i h0 h1 hd hk
      obtain ⟨k, rfl⟩ : ∃ m, k = m + 1 := ⟨k - 1, by omega⟩
      simp only [laws_eqStringS.l0]
      rw [if_neg (by omega)]
    | succ d ih =>
      intro k i h0 h1 hd hk
      obtain ⟨k, rfl⟩ : ∃ m, k = m + 1 := ⟨k - 1, by omega⟩
      simp only [laws_eqStringS.l0]
      rw [if_pos (by omega), if_pos h0, if_pos (by omega), if_pos trivial, Math.w64_id (by omega) (by omega)]
      exact ih k (i + 1) (by omega) (by omega) (by omega) (by omega)
  unfold laws_eqStringS.f
  rw [if_pos rfl]
  exact key l.length k 0 (by omega) (by omega) (by omega) hk
theorem eqArrS_self (l : List S91) (hn : l.length ≤ 1048576) (k : Nat) (hk : l.length < k) : laws_eqArrS.f k l l = some true := by
  have key : ∀ (d k : Nat) (i : Int), 0 ≤ i → i ≤ l.length → (l.length : Int) - i = d → d < k → laws_eqArrS.l0 k l l i = some true := by
    intro d
    induction d with
    | zero =>
      intro k i h0 h1 hd hk
      obtain ⟨k, rfl⟩ : ∃ m, k = m + 1 := ⟨k - 1, by omega⟩
      simp only [laws_eqArrS.l0]
      rw [if_neg (by omega)]
    | succ d ih =>
      intro k i h0 h1 hd hk
      obtain ⟨k, rfl⟩ : ∃ m, k = m + 1 := ⟨k - 1, by omega⟩
      simp only [laws_eqArrS.l0]
      rw [if_pos (by omega), if_pos h0, if_pos (by omega)]
      simp only [laws_eqArr.f, if_true, Option.bind_some]
      rw [Math.w64_id (by omega) (by omega)]
      exact ih k (i + 1) (by omega) (by omega) (by omega) (by omega)
  unfold laws_eqArrS.f
  rw [if_pos rfl]
  exact key l.length k 0 (by omega) (by omega) (by omega) hk
theorem eqDecl_self (l0 l1 : List ByteArray) (l2 : List S91) (b0 : l0.length ≤ 1048576) (b1 : l1.length ≤ 1048576) (b2 : l2.length ≤ 1048576) (k : Nat) (hk : 1048576 < k) : laws_eqDecl.f k l0 l1 l2 l0 l1 l2 = some true := by
  unfold laws_eqDecl.f
  rw [eqStringS_self l0 b0 k (by omega), Option.bind_some, if_pos rfl, eqStringS_self l1 b1 k (by omega), Option.bind_some, if_pos rfl, eqArrS_self l2 b2 k (by omega), Option.bind_some, if_pos rfl]

open impl_Decl_isRight in
theorem key_l (s : ByteArray) (l : List ByteArray) (hl : l.length ≤ 2097152) : ∀ (n i k : Nat), i + n = l.length → n < k → spec_l3Key.l0 k s l i = some (has (l.drop i) s)
  | 0, i, k + 1, hi, _ => by
    unfold spec_l3Key.l0
    rw [if_neg (by omega), List.drop_eq_nil_of_le (by omega)]
    rfl
  | n + 1, i, k + 1, hi, hk => by
    have hlt : i < l.length := by omega
    have hd : rdOf ByteArray.empty l (i : Int) = l[i] := by unfold rdOf; simp [List.getD_eq_getElem?_getD, hlt]
    have hc : l.drop i = l[i] :: l.drop (i + 1) := List.drop_eq_getElem_cons hlt
    unfold spec_l3Key.l0
    rw [if_pos (by omega), if_pos (by omega), hd, w1 i (by omega), hc]
    unfold has
    rw [List.any_cons]
    by_cases he : s = l[i]
    · rw [if_pos ((teq _ _).2 he.symm)]
      simp [he]
    · rw [if_neg (fun h => he ((teq _ _).1 h).symm), key_l s l hl n (i + 1) k (by omega) (by omega)]
      simp [he, has]
open impl_Decl_isRight in
theorem specKey_is (s : ByteArray) (k : Nat) (hk : 16 < k) : spec_l3Key.f k s = some (has impl_isWord.words s) := key_l s impl_isWord.words (by decide) 16 0 k rfl hk
open impl_Decl_isRight in
theorem specName_l (s : ByteArray) (hs : s.size ≤ 1048576) : ∀ n i k, i + n = s.size → n + 20 < k → spec_l3Name.l0 k s i = some (((s.data.toList.drop i).all fun c => decide (97 ≤ c.toNat ∧ c.toNat ≤ 122)) && decide (1 ≤ s.size ∧ s.size ≤ 8) && !(has impl_isWord.words s))
  | 0, i, k + 1, hi, hk => by
    have hz : s.data.toList.length = s.size := rfl
    unfold spec_l3Name.l0 spec_l1In.f
    rw [if_neg (by omega), List.drop_eq_nil_of_le (by omega), specKey_is s k (by omega)]
    by_cases h1 : 1 ≤ s.size
    · rw [if_pos (by omega)]
      by_cases h8 : s.size ≤ 8
      · have h1' : (1 : Int) ≤ (s.size : Int) := by omega
        have h8' : (s.size : Int) ≤ 8 := by omega
        simp [h1, h8, h1', h8']
      · have h8' : ¬ (s.size : Int) ≤ 8 := by omega
        simp [h1, h8, h8']
    · rw [if_neg (by omega)]
      simp [h1]
  | n + 1, i, k + 1, hi, hk => by
    have hz : s.data.toList.length = s.size := rfl
    have hlt : i < s.size := by omega
    have hc : s.data.toList.drop i = (s.data.toList[i]'hlt) :: s.data.toList.drop (i + 1) := List.drop_eq_getElem_cons hlt
    unfold spec_l3Name.l0
    rw [if_pos (by omega), if_pos (by omega), impl_Decl_isRight.byte s i hlt, w1 i (by omega), specName_l s hs n (i + 1) k (by omega) (by omega), hc]
    generalize s.data.toList[i]'hlt = b
    by_cases h1 : 97 ≤ b.toNat
    · rw [if_neg (by omega)]
      by_cases h2 : b.toNat ≤ 122
      · rw [if_neg (by omega)]
        simp [h1, h2]
      · rw [if_pos (by omega)]
        simp [h2]
    · rw [if_pos (by omega)]
      simp [h1]
open impl_Decl_isRight in
theorem specName_is (s : ByteArray) (hs : s.size ≤ 1048576) (k : Nat) (hk : 1048600 < k) : spec_l3Name.f k s = some (nameB s) := specName_l s hs s.size 0 k (by omega) (by omega)
open impl_Decl_isRight in
theorem place_l (l : List ByteArray) (s : ByteArray) (hl : l.length ≤ 4194304) : ∀ n i k, i + n = l.length → n < k → ∃ t, spec_l3Place.l0 k l s i = some t ∧ decide (t ≥ 0) = has (l.drop i) s
  | 0, i, k + 1, hi, _ => by
    refine ⟨-1, ?_, ?_⟩
    · unfold spec_l3Place.l0
      rw [if_neg (by omega)]
    · rw [List.drop_eq_nil_of_le (by omega)]; rfl
  | n + 1, i, k + 1, hi, hk => by
    have hlt : i < l.length := by omega
    have hd : rdOf ByteArray.empty l (i : Int) = l[i] := by unfold rdOf; simp [List.getD_eq_getElem?_getD, hlt]
    have hc : l.drop i = l[i] :: l.drop (i + 1) := List.drop_eq_getElem_cons hlt
    unfold spec_l3Place.l0
    rw [if_pos (by omega), if_pos (by omega), hd, w1 i (by omega)]
    by_cases he : s = l[i]
    · rw [if_pos ((teq _ _).2 he.symm)]
      exact ⟨i, rfl, by rw [hc]; unfold has; rw [List.any_cons]; simp [he]⟩
    · rw [if_neg (fun h => he ((teq _ _).1 h).symm)]
      obtain ⟨t, h1, h2⟩ := place_l l s hl n (i + 1) k (by omega) (by omega)
      exact ⟨t, h1, by rw [h2, hc]; unfold has; rw [List.any_cons]; simp [he]⟩
open impl_Decl_isRight in
theorem specRun_l (L : List ByteArray) (hl : L.length ≤ 4194304) (hs : ∀ s ∈ L, s.size ≤ 1048576) (B : Nat) (hB : 4194400 ≤ B) : ∀ n i k, i + n = L.length → n + B < k → spec_DeclOk.l1 k L i = some (run (L.take i) (L.drop i))
  | 0, i, k + 1, hi, _ => by
    unfold spec_DeclOk.l1
    rw [if_neg (by omega), List.drop_eq_nil_of_le (by omega)]
    rfl
  | n + 1, i, k + 1, hi, hk => by
    have hlt : i < L.length := by omega
    have hd : rdOf ByteArray.empty L (i : Int) = L[i] := by unfold rdOf; simp [List.getD_eq_getElem?_getD, hlt]
    have hc : L.drop i = L[i] :: L.drop (i + 1) := List.drop_eq_getElem_cons hlt
    have hlk : (L.take i).length = i := by simp; omega
    have ht : L.take (i + 1) = L.take i ++ [L[i]] := List.take_succ_eq_append_getElem hlt
    obtain ⟨t, e1, e2⟩ := place_l (L.take i) L[i] (by omega) i 0 k (by omega) (by omega)
    rw [List.drop_zero] at e2
    have ih := specRun_l L hl hs B hB n (i + 1) k (by omega) (by omega)
    unfold spec_DeclOk.l1
    rw [if_pos (by omega), if_pos (by omega), hd, w1 i (by omega), specName_is _ (hs _ (List.getElem_mem hlt)) k (by omega), if_pos (by omega), Int.toNat_natCast, hc]
    unfold run
    rw [← ht]
    have e1' : spec_l3Place.f k (L.take i) L[i] = some t := e1
    rw [e1', Option.bind_some, Option.bind_some, ← e2]
    cases nameB L[i] with
    | false => simp
    | true =>
      by_cases htt : t ≥ 0
      · have h2 : decide (t ≥ 0) = true := decide_eq_true htt
        rw [h2, if_pos rfl, if_pos htt]; rfl
      · have h2 : decide (t ≥ 0) = false := decide_eq_false htt
        rw [h2, if_pos rfl, if_neg htt, ih]; simp
open impl_Decl_isRight in
theorem specArr_l (l0 l1 : List ByteArray) (l2 : List S91) (hl : l2.length ≤ 1048576) (hs : ∀ x ∈ l2, x.f0.size ≤ 1048576) (B : Nat) (hB : 8400000 ≤ B) (M : Nat) (hM : M = 4194304) : ∀ n i k (X : List ByteArray), i + n = l2.length → n + X.length ≤ M → (∀ s ∈ X, s.size ≤ 1048576) → n + B < k → spec_DeclOk.l0 k X i l0 l1 l2 = some ((l2.drop i).all sizeB && run [] (X ++ (l2.drop i).map (·.f0)))
  | 0, i, k + 1, X, hi, hX, hsX, hk => by
    unfold spec_DeclOk.l0
    rw [if_neg (by omega), List.drop_eq_nil_of_le (by omega), show (0 : Int) = ((0 : Nat) : Int) from rfl, specRun_l X (by omega) hsX 4194400 (Nat.le_refl _) X.length 0 k (by omega) (by omega)]
    simp
  | n + 1, i, k + 1, X, hi, hX, hsX, hk => by
    have hlt : i < l2.length := by omega
    have hd : rd_T91 l2 (i : Int) = l2[i] := by unfold rd_T91; simp [List.getD_eq_getElem?_getD, hlt]
    have hc : l2.drop i = l2[i] :: l2.drop (i + 1) := List.drop_eq_getElem_cons hlt
    have ih := specArr_l l0 l1 l2 hl hs B hB M hM n (i + 1) k (X ++ [l2[i].f0]) (by omega) (by simp; omega) (fun s hm => by
      rcases List.mem_append.1 hm with hm | hm
      · exact hsX s hm
      · rw [List.mem_singleton.1 hm]; exact hs _ (List.getElem_mem hlt)) (by omega)
    have hin : spec_l1In.f l2[i].f1 1 16 = some (sizeB l2[i]) := by
      unfold spec_l1In.f sizeB
      by_cases h1 : 1 ≤ l2[i].f1 <;> by_cases h2 : l2[i].f1 ≤ 16 <;> simp [h1, h2]
    unfold spec_DeclOk.l0
    rw [if_pos (by omega), if_pos (by omega), hd, w1 i (by omega), hin, if_pos (by omega), ih, hc, Option.bind_some, List.all_cons, List.map_cons]
    cases sizeB l2[i] with
    | false => rw [if_neg (by decide)]; rfl
    | true => rw [if_pos rfl, Bool.true_and, List.append_assoc]; rfl
open impl_Decl_isRight in
theorem specDeclOk_is (l0 l1 : List ByteArray) (l2 : List S91) (b0 : FitS l0) (b1 : FitS l1) (hl : l2.length ≤ 1048576) (hs : ∀ x ∈ l2, x.f0.size ≤ 1048576) (k : Nat) (hk : 16800000 < k) : spec_DeclOk.f k l0 l1 l2 = some (ok l0 l1 l2) := by
  obtain ⟨k, rfl⟩ : ∃ m, k = m + 1 := ⟨k - 1, by omega⟩
  unfold spec_DeclOk.f ok
  have hj : ∀ b, spec_DeclOk.j0 (k + 1) b l0 l1 l2 = some (!b && (l2.all sizeB && run [] (l0 ++ l1 ++ l2.map (·.f0)))) := by
    intro b
    simp only [spec_DeclOk.j0]
    cases b with
    | true => rfl
    | false =>
      rw [if_neg (by decide), Option.bind_some, if_pos (by have := b0.1; simp; omega), Option.bind_some, if_pos (by have := b0.1; have := b1.1; simp; omega)]
      rw [show (0 : Int) = ((0 : Nat) : Int) from rfl, specArr_l l0 l1 l2 hl hs 8400000 (Nat.le_refl _) 4194304 rfl l2.length 0 k _ (by omega) (by have := b0.1; have := b1.1; simp; omega) (fun s hm => by
        rw [List.nil_append] at hm
        rcases List.mem_append.1 hm with hm | hm
        · exact b0.2 s hm
        · exact b1.2 s hm) (by omega)]
      simp
  rw [hj, hj]
  by_cases h5 : l0.length ≤ 5
  · rw [if_neg (by omega)]
    by_cases h3 : l1.length ≤ 3
    · rw [if_neg (by omega)]
      by_cases h2 : l2.length ≤ 2
      · have h2' : ¬ ((l2.length : Int) > 2) := by omega
        simp only [h5, h3, h2, h2', decide_true, decide_false, Bool.and_true, Bool.not_false, Bool.true_and]
        rw [Bool.and_comm]
      · have h2' : ((l2.length : Int) > 2) := by omega
        simp [h2, h2']
    · rw [if_pos (by omega)]
      simp [h3]
  · rw [if_pos (by omega)]
    simp [h5]
open impl_Decl_isRight in
theorem isRight_is (l0 l1 : List ByteArray) (l2 : List S91) (b0 : FitS l0) (b1 : FitS l1) (hl : l2.length ≤ 1048576) (hs : ∀ x ∈ l2, x.f0.size ≤ 1048576) : impl_Decl_isRight.f l0 l1 l2 = some (ok l0 l1 l2) := by
  unfold impl_Decl_isRight.f
  rw [if_pos]
  refine ⟨by have := b0.1; have := b1.1; omega, fun s hm => ?_⟩
  have : s.size ≤ 1048576 := by
    rcases List.mem_append.1 hm with hm | hm
    · rcases List.mem_append.1 hm with hm | hm
      · exact b0.2 s hm
      · exact b1.2 s hm
    · obtain ⟨x, hx, rfl⟩ := List.mem_map.1 hm
      exact hs x hx
  omega

def cvT (x : S121) : S86 := ⟨x.f0, x.f1⟩
def OkT (l : List S121) : Prop := l.length ≤ 9223372036854775807
theorem rd86 (l : List S86) (i : Nat) (h : i < l.length) : rd_T86 l (i : Int) = l[i] := by unfold rd_T86; simp [List.getD_eq_getElem?_getD, h]
theorem szTS_is (l : List S121) (b : OkT l) (a : Int) (ha : 0 ≤ a) (hb : a ≤ 1048576) : ∃ t, laws_szTokS.f l a = some t ∧ t ≤ a ∧ (0 ≤ t → l.length ≤ 1048576) := by
  unfold laws_szTokS.f
  unfold OkT at b
  rw [Math.w64_id (by omega) (by omega)]
  by_cases hn : a - (l.length : Int) < 0
  · rw [if_pos hn]; exact ⟨-1, rfl, by omega, fun h => absurd h (by decide)⟩
  · rw [if_neg hn]; exact ⟨_, rfl, by omega, fun h => by omega⟩
theorem toTS_loop (l : List S121) (hn : l.length ≤ 1048576) (d : Nat) : ∀ (k : Nat) (i : Int), 0 ≤ i → i ≤ l.length → (l.length : Int) - i = d → d < k →
    laws_toTokS.l0 k l ((l.take i.toNat).map cvT ++ List.replicate d z86) i = some (l.map cvT) := by
  induction d with
  | zero =>
    intro k i h0 h1 hd hk
    obtain ⟨k, rfl⟩ : ∃ m, k = m + 1 := ⟨k - 1, by omega⟩
    simp only [laws_toTokS.l0]
    rw [if_neg (by omega), List.take_of_length_le (by omega)]
    simp
  | succ d ih =>
    intro k i h0 h1 hd hk
    obtain ⟨k, rfl⟩ : ∃ m, k = m + 1 := ⟨k - 1, by omega⟩
    simp only [laws_toTokS.l0]
    have hlen : ((l.take i.toNat).map cvT ++ List.replicate (d + 1) z86).length = l.length := by
      rw [List.length_append, List.length_map, List.length_take, List.length_replicate]; omega
    have hi : i.toNat < l.length := by omega
    have e : rd_T121 l i = l[i.toNat] := by unfold rd_T121; simp [List.getD_eq_getElem?_getD, hi]
    rw [if_pos (by omega), if_pos h0, e]
    simp only [laws_toTok.f, Option.bind_some]
    rw [if_pos (by rw [hlen]; omega), Math.w64_id (by omega) (by omega)]
    have e : ((l.take i.toNat).map cvT ++ List.replicate (d + 1) z86).set i.toNat (⟨l[i.toNat].f0, l[i.toNat].f1⟩ : S86) = (l.take (i + 1).toNat).map cvT ++ List.replicate d z86 := by
      rw [show (i + 1).toNat = i.toNat + 1 by omega, List.take_succ_eq_append_getElem hi, List.set_append, if_neg (by rw [List.length_map, List.length_take]; omega), List.length_map, List.length_take, Nat.min_eq_left (by omega), Nat.sub_self]
      simp only [List.replicate_succ, List.set_cons_zero, List.map_append, List.map_cons, List.map_nil]
      rw [List.append_assoc]
      rfl
    rw [e]
    exact ih k (i + 1) (by omega) (by omega) (by omega) (by omega)
theorem toTS_is (l : List S121) (hn : l.length ≤ 1048576) (k : Nat) (hk : l.length < k) : laws_toTokS.f k l = some (l.map cvT) := by
  unfold laws_toTokS.f
  rw [if_pos (by omega), if_pos (by omega)]
  have := toTS_loop l hn l.length k 0 (by omega) (by omega) (by omega) hk
  simpa using this
theorem eqTS_self (l : List S86) (hn : l.length ≤ 1048576) (k : Nat) (hk : l.length < k) : laws_eqTokS.f k l l = some true := by
  have key : ∀ (d k : Nat) (i : Int), 0 ≤ i → i ≤ l.length → (l.length : Int) - i = d → d < k → laws_eqTokS.l0 k l l i = some true := by
    intro d
    induction d with
    | zero =>
      intro k i h0 h1 hd hk
      obtain ⟨k, rfl⟩ : ∃ m, k = m + 1 := ⟨k - 1, by omega⟩
      simp only [laws_eqTokS.l0]
      rw [if_neg (by omega)]
    | succ d ih =>
      intro k i h0 h1 hd hk
      obtain ⟨k, rfl⟩ : ∃ m, k = m + 1 := ⟨k - 1, by omega⟩
      simp only [laws_eqTokS.l0]
      rw [if_pos (by omega), if_pos h0, if_pos (by omega)]
      simp only [laws_eqTok.f, if_true, Option.bind_some]
      rw [Math.w64_id (by omega) (by omega)]
      exact ih k (i + 1) (by omega) (by omega) (by omega) (by omega)
  unfold laws_eqTokS.f
  rw [if_pos rfl]
  exact key l.length k 0 (by omega) (by omega) (by omega) hk
open impl_Decl_kindOf in
theorem specTok_is (l0 l1 : List ByteArray) (l2 : List S91) (x : S86) (h0 : l0.length ≤ 1048576) (h1 : l1.length ≤ 1048576) (h2 : l2.length ≤ 1048576) : spec_l3Tok.f l0 l1 l2 x.f0 x.f1 = some (tokB l0 l1 l2 x) := by
  have w (n : Nat) (hn : n ≤ 1048576) : wrap64 ((n : Int) - 1) = (n : Int) - 1 := by unfold wrap64; omega
  have hw : ∀ y a b : Int, spec_l1In.f y a b = some (decide (a ≤ y ∧ y ≤ b)) := by
    intro y a b
    unfold spec_l1In.f
    by_cases h1 : a ≤ y <;> by_cases h2 : y ≤ b <;> simp [h1, h2]
  unfold spec_l3Tok.f tokB
  simp only [Option.bind_some, hw, w _ h0, w _ h1, w _ h2]
  by_cases h1 : x.f0 = 1
  · rw [if_pos h1, if_pos h1]
  rw [if_neg h1, if_neg h1]
  by_cases h2 : x.f0 = 2
  · rw [if_pos h2, if_pos h2]
  rw [if_neg h2, if_neg h2]
  by_cases h3 : x.f0 = 3
  · rw [if_pos h3, if_pos h3]
  rw [if_neg h3, if_neg h3]
  by_cases h6 : x.f0 = 6
  · rw [if_pos h6, if_pos h6]
  rw [if_neg h6, if_neg h6]
  by_cases h4 : 4 ≤ x.f0 ∧ x.f0 ≤ 21
  · rw [decide_eq_true h4, if_pos rfl]
    by_cases h0 : x.f1 = 0 <;> simp [h0]
  · rw [decide_eq_false h4, if_neg (by decide)]
    rfl
open impl_Decl_kindOf in
theorem tok_range (l0 l1 : List ByteArray) (l2 : List S91) (x : S86) (h : tokB l0 l1 l2 x = true) : 1 ≤ x.f0 ∧ x.f0 ≤ 21 := by
  unfold tokB at h
  by_cases h1 : x.f0 = 1
  · omega
  by_cases h2 : x.f0 = 2
  · omega
  by_cases h3 : x.f0 = 3
  · omega
  by_cases h6 : x.f0 = 6
  · omega
  rw [if_neg h1, if_neg h2, if_neg h3, if_neg h6] at h
  simp only [Bool.and_eq_true, decide_eq_true_eq] at h
  omega
theorem takes_some (op : Int) : ∃ n, spec_l3Takes.f op = some n := by
  unfold spec_l3Takes.f
  by_cases h1 : op ≤ 5
  · exact ⟨_, if_pos h1⟩
  by_cases h2 : op ≤ 7
  · exact ⟨1, by rw [if_neg h1, if_pos h2]⟩
  by_cases h3 : op = 19
  · exact ⟨1, by rw [if_neg h1, if_neg h2, if_pos h3]⟩
  · exact ⟨2, by rw [if_neg h1, if_neg h2, if_neg h3]⟩
theorem kinds_j (op : Int) (k : Nat) (b : Bool) : spec_l3Kinds.j0 (k + 1) op b = some (if b = true then (0, 2) else if op ≤ 12 then (1, 1) else if op ≤ 18 then (1, 2) else (2, 2)) := by
  simp only [spec_l3Kinds.j0]
  by_cases h : b = true
  · rw [if_pos h, if_pos h]
  rw [if_neg h, if_neg h]
  by_cases h1 : op ≤ 12
  · rw [if_pos h1, if_pos h1]
  rw [if_neg h1, if_neg h1]
  by_cases h2 : op ≤ 18
  · rw [if_pos h2, if_pos h2]
  · rw [if_neg h2, if_neg h2]
theorem kinds_is (op : Int) (k : Nat) : spec_l3Kinds.f (k + 1) op = some (if op = 3 ∨ op = 4 ∨ op = 5 then (0, 2) else if op ≤ 12 then (1, 1) else if op ≤ 18 then (1, 2) else (2, 2)) := by
  unfold spec_l3Kinds.f
  by_cases h3 : op = 3
  · rw [if_pos h3, kinds_j, if_pos rfl, if_pos (Or.inl h3)]
  rw [if_neg h3]
  by_cases h4 : op = 4
  · rw [if_pos h4, kinds_j, if_pos rfl, if_pos (Or.inr (Or.inl h4))]
  rw [if_neg h4, kinds_j]
  by_cases h5 : op = 5
  · rw [if_pos (beq_iff_eq.mpr h5), if_pos (Or.inr (Or.inr h5))]
  · rw [if_neg (by simpa using h5), if_neg (show ¬ (op = 3 ∨ op = 4 ∨ op = 5) by omega)]
open impl_Decl_kindOf in
/-- What an operation takes and leaves, told twice. -/
theorem op_is (op : Int) (k : Nat) (h1 : 1 ≤ op) (h2 : op ≤ 21) : ∃ kd, spec_l3Takes.f op = some ((want op).length : Int) ∧ spec_l3Kinds.f (k + 1) op = some (kd, leaf op) ∧ want op = List.replicate (want op).length kd := by
  rw [kinds_is]
  obtain h | h | h | h | h | h | h | h | h | h | h | h | h | h | h | h | h | h | h | h | h : op = 1 ∨ op = 2 ∨ op = 3 ∨ op = 4 ∨ op = 5 ∨ op = 6 ∨ op = 7 ∨ op = 8 ∨ op = 9 ∨ op = 10 ∨ op = 11 ∨ op = 12 ∨ op = 13 ∨ op = 14 ∨ op = 15 ∨ op = 16 ∨ op = 17 ∨ op = 18 ∨ op = 19 ∨ op = 20 ∨ op = 21 := by omega
  all_goals
    subst h
    exact ⟨_, rfl, rfl, rfl⟩
open impl_Decl_kindOf in
theorem want_len (op : Int) : (want op).length ≤ 2 := by
  unfold want
  split <;> (try split) <;> (try split) <;> (try split) <;> simp
theorem expr_l1 (L : List S86) (p : List Int) (l0 l1 : List ByteArray) (l2 : List S91) (i n kd lf : Int) (hp : p.length ≤ 40) (hn0 : 0 ≤ n) (hn : n ≤ p.length) (hi : 0 ≤ i) (hi2 : i < 100) : ∀ (d j K : Nat), j + d = p.length →
    spec_ExprOk.l1 (K + d + 1) L p i n kd lf (j : Int) l0 l1 l2 = if p.drop j = List.replicate d kd then spec_ExprOk.l0 K L (p.take (p.length - n.toNat) ++ [lf]) (i + 1) l0 l1 l2 else some 0
  | 0, j, K, hj => by
    unfold spec_ExprOk.l1
    have hw : wrap64 ((p.length : Int) - n) = (p.length : Int) - n := by unfold wrap64; omega
    have hw2 : wrap64 (i + 1) = i + 1 := by unfold wrap64; omega
    rw [if_neg (by omega), hw, if_pos (by omega), if_pos (by omega), Option.bind_some, if_pos (by rw [List.length_take]; omega), hw2, List.drop_of_length_le (by omega), if_pos (show ([] : List Int) = List.replicate 0 kd from rfl), show ((p.length : Int) - n).toNat = p.length - n.toNat by omega]
  | d + 1, j, K, hj => by
    have hlt : j < p.length := by omega
    have e : rd p (j : Int) = p[j] := by simp [rd, List.getD_eq_getElem?_getD, hlt]
    have hw : wrap64 ((j : Int) + 1) = ((j + 1 : Nat) : Int) := by unfold wrap64; omega
    rw [show K + (d + 1) + 1 = (K + d + 1) + 1 by omega]
    rw [spec_ExprOk.l1]
    rw [if_pos (by omega), if_pos (by omega), e, hw, expr_l1 L p l0 l1 l2 i n kd lf hp hn0 hn hi hi2 d (j + 1) K (by omega), List.drop_eq_getElem_cons hlt, List.replicate_succ]
    by_cases h : p[j] = kd
    · rw [if_pos h]
      simp only [List.cons.injEq, h, true_and]
    · rw [if_neg h, if_neg (fun q => h (List.cons.inj q).1)]
open impl_Decl_kindOf in
theorem expr_l0 (L : List S86) (hL : L.length ≤ 40) (l0 l1 : List ByteArray) (l2 : List S91) (h0 : l0.length ≤ 1048576) (h1 : l1.length ≤ 1048576) (h2 : l2.length ≤ 1048576) : ∀ (n i K : Nat) (p : List Int), i + n = L.length → p.length ≤ i → 6 * n + 1 ≤ K →
    spec_ExprOk.l0 K L p (i : Int) l0 l1 l2 = some (if (L.drop i).all (tokB l0 l1 l2) = true then loop (L.drop i) p else 0)
  | 0, i, K, p, hi, hp, hk => by
    obtain ⟨K, rfl⟩ : ∃ m, K = m + 1 := ⟨K - 1, by omega⟩
    unfold spec_ExprOk.l0
    rw [if_neg (by omega), List.drop_of_length_le (by omega), if_pos (show ([] : List S86).all (tokB l0 l1 l2) = true from rfl)]
    unfold loop
    by_cases h : p.length = 1
    · rw [if_pos (show (p.length : Int) = 1 by omega), if_pos (show (0 : Int) < p.length by omega), if_pos h]
      rfl
    · rw [if_neg (show ¬ (p.length : Int) = 1 by omega), if_neg h]
  | n + 1, i, K, p, hi, hp, hk => by
    obtain ⟨K, rfl⟩ : ∃ m, K = m + 7 := ⟨K - 7, by omega⟩
    have hlt : i < L.length := by omega
    rw [spec_ExprOk.l0]
    rw [if_pos (by omega), if_pos (by omega), rd86 L i hlt, specTok_is l0 l1 l2 _ h0 h1 h2, List.drop_eq_getElem_cons hlt, List.all_cons]
    generalize hx : L[i] = x
    obtain ⟨t, et⟩ := takes_some x.f0
    cases ht : tokB l0 l1 l2 x with
    | false =>
      rw [et, kinds_is x.f0 (K + 5)]
      simp only [Option.bind_some, Bool.false_and, Bool.false_eq_true, if_false]
      rw [spec_ExprOk.j2]
      exact if_pos rfl
    | true =>
      obtain ⟨r1, r2⟩ := tok_range l0 l1 l2 x ht
      obtain ⟨kd, e1, e2, e3⟩ := op_is x.f0 (K + 5) r1 r2
      have wl := want_len x.f0
      rw [e1, e2]
      simp only [Option.bind_some, Bool.true_and, if_true]
      rw [spec_ExprOk.j2, loop]
      by_cases hlw : p.length < (want x.f0).length
      · rw [if_pos (decide_eq_true (by omega)), if_pos hlw]
        simp
      · rw [if_neg (by simpa using hlw), if_neg hlw]
        have hw : wrap64 ((p.length : Int) - ((want x.f0).length : Int)) = ((p.length - (want x.f0).length : Nat) : Int) := by unfold wrap64; omega
        have q := expr_l1 L p l0 l1 l2 i (want x.f0).length kd (leaf x.f0) (by omega) (by omega) (by omega) (by omega) (by omega) (want x.f0).length (p.length - (want x.f0).length) (K + 4 - (want x.f0).length) (by omega)
        rw [show K + 4 - (want x.f0).length + (want x.f0).length + 1 = K + 5 by omega, ← e3] at q
        rw [hw, q, Int.toNat_natCast]
        by_cases hd : p.drop (p.length - (want x.f0).length) = want x.f0
        · rw [if_pos hd, if_pos hd]
          have ih := expr_l0 L hL l0 l1 l2 h0 h1 h2 n (i + 1) (K + 4 - (want x.f0).length) (p.take (p.length - (want x.f0).length) ++ [leaf x.f0]) (by omega) (by rw [List.length_append, List.length_take, List.length_cons, List.length_nil]; omega) (by omega)
          rw [← ih]
          rfl
        · rw [if_neg hd, if_neg hd]
          simp

open impl_Decl_kindOf in
theorem FnExactExprOk (l0_0 l0_1 : List ByteArray) (l0_2 : List S141) (l1 : List S121) (b0_0 : OkS l0_0) (b0_1 : OkS l0_1) (b0_2 : OkA l0_2) (b1 : OkT l1) : ∃ k, laws_FnExactExprOk.f k l0_0 l0_1 l0_2 l1 = some true := by
  obtain ⟨k, hk⟩ : ∃ k, k = l0_0.length + l0_1.length + l0_2.length + 16800010 := ⟨_, rfl⟩
  refine ⟨k, ?_⟩
  unfold laws_FnExactExprOk.f
  obtain ⟨t, e, h1, g⟩ := szDecl_is l0_0 l0_1 l0_2 b0_0 b0_1 b0_2 k (by omega) (by omega) (by omega) 1048576 (by decide) (by decide)
  rw [e, Option.bind_some]
  by_cases hn : t < 0
  · rw [if_pos hn]
  rw [if_neg hn]
  obtain ⟨t2, e2, _, g2⟩ := szTS_is l1 b1 t (by omega) (by omega)
  rw [e2, Option.bind_some]
  by_cases hn2 : t2 < 0
  · rw [if_pos hn2]
  rw [if_neg hn2]
  obtain ⟨f0, f1, f2⟩ := g (by omega)
  have c1 := g2 (by omega)
  have hm : (l0_2.map cvA).length ≤ 1048576 := by rw [List.length_map]; exact f2.1
  have hs : ∀ x ∈ l0_2.map cvA, x.f0.size ≤ 1048576 := fun x hx => by
    obtain ⟨y, hy, rfl⟩ := List.mem_map.1 hx
    exact f2.2 y hy
  have d1 : (l1.map cvT).length ≤ 1048576 := by rw [List.length_map]; exact c1
  rw [toDecl_is _ _ _ f0 f1 f2 _ (by omega), toTS_is _ c1 _ (by omega)]
  simp only [Option.bind_some]
  have f0l := f0.1
  have f1l := f1.1
  generalize l1.map cvT = L at d1 ⊢
  generalize l0_2.map cvA = A at hm hs ⊢
  have key : spec_ExprOk.f k l0_0 l0_1 A L = impl_ExprOk.f l0_0 l0_1 A L ∧ ∃ r, impl_ExprOk.f l0_0 l0_1 A L = some r := by
    obtain ⟨k, rfl⟩ : ∃ m, k = m + 1 := ⟨k - 1, by omega⟩
    unfold spec_ExprOk.f impl_ExprOk.f
    rw [specDeclOk_is _ _ _ f0 f1 hm hs _ (by omega), isRight_is _ _ _ f0 f1 hm hs]
    simp only [Option.bind_some]
    cases impl_Decl_isRight.ok l0_0 l0_1 A with
    | false =>
      refine ⟨?_, 0, rfl⟩
      simp only [Bool.false_eq_true, if_false]
      rw [spec_ExprOk.j0]
      rfl
    | true =>
      unfold impl_Decl_kindOf.f
      simp only [if_true]
      rw [if_pos (by omega), spec_ExprOk.j0]
      simp only [Option.bind_some]
      refine ⟨?_, _, rfl⟩
      by_cases h40 : L.length ≤ 40
      · rw [if_neg (by simp; omega), if_pos h40, show (0 : Int) = ((0 : Nat) : Int) from rfl, expr_l0 L h40 l0_0 l0_1 A (by omega) (by omega) hm L.length 0 k [] (by omega) (by simp) (by omega)]
        rfl
      · rw [if_pos (decide_eq_true (by omega)), if_neg h40]
  obtain ⟨e3, r, e4⟩ := key
  rw [e3, e4]
  simp only [Option.bind_some, if_true]
  rw [eqDecl_self _ _ _ f0l f1l hm _ (by omega)]
  simp only [Option.bind_some, if_true]
  rw [eqTS_self _ d1 _ (by omega)]
  rfl

end Go.Proofs.YtcomagipdbdglaaDoor.PureFnExactExprOk
