/- The program's TableOk and the reference's return the same for all arguments, and leave them alone: the law's function returns true. Conditions: none. -/
import Derived.Test.YtcomagipdbdglaaDoorQx0
import Derived.Test.YtcomagipdbdglaaDoorQx1
import Derived.Test.YtcomagipdbdglaaDoorQx2
import Derived.Test.YtcomagipdbdglaaDoorQx3
import Derived.Test.YtcomagipdbdglaaDoorQx4
import Derived.Test.YtcomagipdbdglaaDoorQx5
import Derived.Test.YtcomagipdbdglaaDoorQx6
import Derived.Test.YtcomagipdbdglaaDoorQx7
import Derived.Test.YtcomagipdbdglaaDoorQx8
import Derived.Test.YtcomagipdbdglaaDoorQx9
import Derived.Test.YtcomagipdbdglaaDoorQx10
import Derived.Test.YtcomagipdbdglaaDoorQx11
import Derived.Test.YtcomagipdbdglaaDoorQx12
import Derived.Test.YtcomagipdbdglaaDoorQx13
import Derived.Test.YtcomagipdbdglaaDoorQx17
import Derived.Test.YtcomagipdbdglaaDoorQx19
import Derived.Test.YtcomagipdbdglaaDoorQx21
import Derived.Test.YtcomagipdbdglaaDoorQx22
import Derived.Test.YtcomagipdbdglaaDoorQx23
import Derived.Test.YtcomagipdbdglaaDoorQx24
import Derived.Test.YtcomagipdbdglaaDoorQx26
import Derived.Test.YtcomagipdbdglaaDoorQx27
import Derived.Test.YtcomagipdbdglaaDoorQx28
import Derived.Test.YtcomagipdbdglaaDoorQx29
import Derived.Test.YtcomagipdbdglaaDoorQx30
import Derived.Test.YtcomagipdbdglaaDoorQx31
import Derived.Test.YtcomagipdbdglaaDoorQx32
import Derived.Test.YtcomagipdbdglaaDoorQx33
import Derived.Test.YtcomagipdbdglaaDoorQx34
import Derived.Test.YtcomagipdbdglaaDoorQx35
import Derived.Test.YtcomagipdbdglaaDoorQx36
import Derived.Test.YtcomagipdbdglaaDoorQx61
import Derived.Test.YtcomagipdbdglaaDoorQx62
import Derived.Test.YtcomagipdbdglaaDoorQx63
import Derived.Test.YtcomagipdbdglaaDoorQx64
import Derived.Test.YtcomagipdbdglaaDoorQx66
import Derived.Test.YtcomagipdbdglaaDoorQx67
import Derived.Test.YtcomagipdbdglaaDoorQx68
import Derived.Test.YtcomagipdbdglaaDoorQx69
import Derived.Test.YtcomagipdbdglaaDoorMath
namespace Go.Proofs.YtcomagipdbdglaaDoor.PureFnExactTableOk
open Go.RowKit Go.Proofs.YtcomagipdbdglaaDoor Go.Proofs.YtcomagipdbdglaaDoor.Q Go.Proofs.YtcomagipdbdglaaDoorW.PrintWords Go.Proofs.YtcomagipdbdglaaDoorW.PrintLast
set_option linter.unusedVariables false
set_option linter.unusedSimpArgs false

def cvA (x : S141) : S91 := ⟨x.f0, x.f1⟩
theorem rdS (l : List ByteArray) (i : Int) (h0 : 0 ≤ i) (h1 : i < l.length) : ∃ h : i.toNat < l.length, rdOf ByteArray.empty l i = l[i.toNat] := by
  have h : i.toNat < l.length := by omega
  refine ⟨h, ?_⟩
  unfold rdOf
  simp [List.getD_eq_getElem?_getD, h]
theorem rd91 (l : List S91) (i : Int) (h0 : 0 ≤ i) (h1 : i < l.length) : ∃ h : i.toNat < l.length, rd_T91 l i = l[i.toNat] := by
  have h : i.toNat < l.length := by omega
  refine ⟨h, ?_⟩
  unfold rd_T91
  simp [List.getD_eq_getElem?_getD, h]
theorem rd141 (l : List S141) (i : Int) (h0 : 0 ≤ i) (h1 : i < l.length) : ∃ h : i.toNat < l.length, rd_T141 l i = l[i.toNat] := by
  have h : i.toNat < l.length := by omega
  refine ⟨h, ?_⟩
  unfold rd_T141
  simp [List.getD_eq_getElem?_getD, h]
def OkS (l : List ByteArray) : Prop := l.length ≤ 9223372036854775807 ∧ ∀ x ∈ l, x.size ≤ 9223372036854775807
def OkA (l : List S141) : Prop := l.length ≤ 9223372036854775807 ∧ ∀ x ∈ l, x.f0.size ≤ 9223372036854775807
def FitS (l : List ByteArray) : Prop := l.length ≤ 1048576 ∧ ∀ x ∈ l, x.size ≤ 1048576
def FitA (l : List S141) : Prop := l.length ≤ 1048576 ∧ ∀ x ∈ l, x.f0.size ≤ 1048576
theorem szStringS_loop (l : List ByteArray) (b : OkS l) : ∀ (d k : Nat) (i a : Int), 0 ≤ i → i ≤ l.length → (l.length : Int) - i = d → d < k → 0 ≤ a → a ≤ 1048576 →
    ∃ t, laws_szStringS.l0 k l a i = some t ∧ t ≤ a ∧ (0 ≤ t → ∀ (j : Nat) (h : j < l.length), i ≤ j → l[j].size ≤ 1048576) := by
  intro d
  induction d with
  | zero =>
    intro k i a h0 h1 hd hk ha hb
    obtain ⟨k, rfl⟩ : ∃ m, k = m + 1 := ⟨k - 1, by omega⟩
    simp only [laws_szStringS.l0]
    rw [if_neg (by omega)]
    exact ⟨a, rfl, Int.le_refl _, fun _ j h hj => absurd h (by omega)⟩
  | succ d ih =>
    intro k i a h0 h1 hd hk ha hb
    obtain ⟨k, rfl⟩ : ∃ m, k = m + 1 := ⟨k - 1, by omega⟩
    simp only [laws_szStringS.l0]
    obtain ⟨hi, e⟩ := rdS l i h0 (by omega)
    have hs := b.2 _ (List.getElem_mem hi)
    rw [if_pos (by omega), if_pos h0, e, Math.w64_id (by omega) (by omega), Math.w64_id (by omega) (by have := b.1; omega)]
    by_cases hn : a - (l[i.toNat].size : Int) < 0
    · rw [if_pos hn]
      exact ⟨-1, rfl, by omega, fun h => absurd h (by decide)⟩
    · rw [if_neg hn]
      obtain ⟨t, e1, e2, e3⟩ := ih k (i + 1) (a - (l[i.toNat].size : Int)) (by omega) (by omega) (by omega) (by omega) (by omega) (by omega)
      refine ⟨t, e1, by omega, fun ht j h hj => ?_⟩
      by_cases hj' : (j : Int) = i
      · obtain rfl : j = i.toNat := by omega
        omega
      · exact e3 ht j h (by omega)
theorem szStringS_is (l : List ByteArray) (b : OkS l) (k : Nat) (hk : l.length < k) (a : Int) (ha : 0 ≤ a) (hb : a ≤ 1048576) :
    ∃ t, laws_szStringS.f k l a = some t ∧ t ≤ a ∧ (0 ≤ t → FitS l) := by
  unfold laws_szStringS.f
  rw [Math.w64_id (by have := b.1; omega) (by omega)]
  by_cases hn : a - (l.length : Int) < 0
  · rw [if_pos hn]
    exact ⟨-1, rfl, by omega, fun h => absurd h (by decide)⟩
  · rw [if_neg hn]
    obtain ⟨t, e1, e2, e3⟩ := szStringS_loop l b l.length k 0 (a - (l.length : Int)) (by omega) (by omega) (by omega) hk (by omega) (by omega)
    refine ⟨t, e1, by omega, fun ht => ⟨by omega, fun x hx => ?_⟩⟩
    obtain ⟨j, hj, rfl⟩ := List.getElem_of_mem hx
    exact e3 ht j hj (by omega)
theorem szArrS_loop (l : List S141) (b : OkA l) : ∀ (d k : Nat) (i a : Int), 0 ≤ i → i ≤ l.length → (l.length : Int) - i = d → d < k → 0 ≤ a → a ≤ 1048576 →
    ∃ t, laws_szArrS.l0 k l a i = some t ∧ t ≤ a ∧ (0 ≤ t → ∀ (j : Nat) (h : j < l.length), i ≤ j → l[j].f0.size ≤ 1048576) := by
  intro d
  induction d with
  | zero =>
    intro k i a h0 h1 hd hk ha hb
    obtain ⟨k, rfl⟩ : ∃ m, k = m + 1 := ⟨k - 1, by omega⟩
    simp only [laws_szArrS.l0]
    rw [if_neg (by omega)]
    exact ⟨a, rfl, Int.le_refl _, fun _ j h hj => absurd h (by omega)⟩
  | succ d ih =>
    intro k i a h0 h1 hd hk ha hb
    obtain ⟨k, rfl⟩ : ∃ m, k = m + 1 := ⟨k - 1, by omega⟩
    simp only [laws_szArrS.l0]
    obtain ⟨hi, e⟩ := rd141 l i h0 (by omega)
    have hs := b.2 _ (List.getElem_mem hi)
    rw [if_pos (by omega), if_pos h0, e, Math.w64_id (x := i + 1) (by omega) (by have := b.1; omega)]
    unfold laws_szArr.f
    rw [Math.w64_id (by omega) (by omega)]
    by_cases hn : a - (l[i.toNat].f0.size : Int) < 0
    · rw [if_pos hn]
      exact ⟨-1, rfl, by omega, fun h => absurd h (by decide)⟩
    · rw [if_neg hn]
      simp only [Option.bind_some]
      rw [if_neg hn]
      obtain ⟨t, e1, e2, e3⟩ := ih k (i + 1) (a - (l[i.toNat].f0.size : Int)) (by omega) (by omega) (by omega) (by omega) (by omega) (by omega)
      refine ⟨t, e1, by omega, fun ht j h hj => ?_⟩
      by_cases hj' : (j : Int) = i
      · obtain rfl : j = i.toNat := by omega
        omega
      · exact e3 ht j h (by omega)
theorem szArrS_is (l : List S141) (b : OkA l) (k : Nat) (hk : l.length < k) (a : Int) (ha : 0 ≤ a) (hb : a ≤ 1048576) :
    ∃ t, laws_szArrS.f k l a = some t ∧ t ≤ a ∧ (0 ≤ t → FitA l) := by
  unfold laws_szArrS.f
  rw [Math.w64_id (by have := b.1; omega) (by omega)]
  by_cases hn : a - (l.length : Int) < 0
  · rw [if_pos hn]
    exact ⟨-1, rfl, by omega, fun h => absurd h (by decide)⟩
  · rw [if_neg hn]
    obtain ⟨t, e1, e2, e3⟩ := szArrS_loop l b l.length k 0 (a - (l.length : Int)) (by omega) (by omega) (by omega) hk (by omega) (by omega)
    refine ⟨t, e1, by omega, fun ht => ⟨by omega, fun x hx => ?_⟩⟩
    obtain ⟨j, hj, rfl⟩ := List.getElem_of_mem hx
    exact e3 ht j hj (by omega)
theorem szDecl_is (l0 l1 : List ByteArray) (l2 : List S141) (b0 : OkS l0) (b1 : OkS l1) (b2 : OkA l2) (k : Nat) (h0 : l0.length < k) (h1 : l1.length < k) (h2 : l2.length < k) (a : Int) (ha : 0 ≤ a) (hb : a ≤ 1048576) :
    ∃ t, laws_szDecl.f k l0 l1 l2 a = some t ∧ t ≤ a ∧ (0 ≤ t → FitS l0 ∧ FitS l1 ∧ FitA l2) := by
  obtain ⟨t0, e0, f0, g0⟩ := szStringS_is l0 b0 k h0 a ha hb
  unfold laws_szDecl.f
  rw [e0, Option.bind_some]
  by_cases n0 : t0 < 0
  · rw [if_pos n0]; exact ⟨-1, rfl, by omega, fun h => absurd h (by decide)⟩
  rw [if_neg n0]
  obtain ⟨t1, e1, f1, g1⟩ := szStringS_is l1 b1 k h1 t0 (by omega) (by omega)
  rw [e1, Option.bind_some]
  by_cases n1 : t1 < 0
  · rw [if_pos n1]; exact ⟨-1, rfl, by omega, fun h => absurd h (by decide)⟩
  rw [if_neg n1]
  obtain ⟨t2, e2, f2, g2⟩ := szArrS_is l2 b2 k h2 t1 (by omega) (by omega)
  rw [e2, Option.bind_some]
  by_cases n2 : t2 < 0
  · rw [if_pos n2]; exact ⟨-1, rfl, by omega, fun h => absurd h (by decide)⟩
  rw [if_neg n2]
  exact ⟨t2, rfl, by omega, fun _ => ⟨g0 (by omega), g1 (by omega), g2 (by omega)⟩⟩
theorem toStringS_loop (l : List ByteArray) (hn : l.length ≤ 1048576) (d : Nat) : ∀ (k : Nat) (i : Int), 0 ≤ i → i ≤ l.length → (l.length : Int) - i = d → d < k →
    laws_toStringS.l0 k l (l.take i.toNat ++ List.replicate d (⟨#[]⟩ : ByteArray)) i = some l := by
  induction d with
  | zero =>
    intro k i h0 h1 hd hk
    obtain ⟨k, rfl⟩ : ∃ m, k = m + 1 := ⟨k - 1, by omega⟩
    simp only [laws_toStringS.l0]
    rw [if_neg (by omega), List.take_of_length_le (by omega)]
    simp
  | succ d ih =>
    intro k i h0 h1 hd hk
    obtain ⟨k, rfl⟩ : ∃ m, k = m + 1 := ⟨k - 1, by omega⟩
    simp only [laws_toStringS.l0]
    have hlen : (l.take i.toNat ++ List.replicate (d + 1) (⟨#[]⟩ : ByteArray)).length = l.length := by
      rw [List.length_append, List.length_take, List.length_replicate]; omega
    obtain ⟨hi, e⟩ := rdS l i h0 (by omega)
    rw [if_pos (by omega), if_pos h0, e]
    rw [if_pos (by rw [hlen]; omega), Math.w64_id (by omega) (by omega)]
    have e : (l.take i.toNat ++ List.replicate (d + 1) (⟨#[]⟩ : ByteArray)).set i.toNat l[i.toNat] = l.take (i + 1).toNat ++ List.replicate d (⟨#[]⟩ : ByteArray) := by
      rw [show (i + 1).toNat = i.toNat + 1 by omega, List.take_succ_eq_append_getElem hi, List.set_append, if_neg (by rw [List.length_take]; omega), List.length_take, Nat.min_eq_left (by omega), Nat.sub_self]
      simp only [List.replicate_succ, List.set_cons_zero]
      rw [List.append_assoc]
      rfl
    rw [e]
    exact ih k (i + 1) (by omega) (by omega) (by omega) (by omega)
theorem toStringS_is (l : List ByteArray) (hn : l.length ≤ 1048576) (k : Nat) (hk : l.length < k) : laws_toStringS.f k l = some l := by
  unfold laws_toStringS.f
  rw [if_pos (by omega), if_pos (by omega)]
  have := toStringS_loop l hn l.length k 0 (by omega) (by omega) (by omega) hk
  simpa using this
theorem toArrS_loop (l : List S141) (hn : l.length ≤ 1048576) (d : Nat) : ∀ (k : Nat) (i : Int), 0 ≤ i → i ≤ l.length → (l.length : Int) - i = d → d < k →
    laws_toArrS.l0 k l ((l.take i.toNat).map cvA ++ List.replicate d z91) i = some (l.map cvA) := by
  induction d with
  | zero =>
    intro k i h0 h1 hd hk
    obtain ⟨k, rfl⟩ : ∃ m, k = m + 1 := ⟨k - 1, by omega⟩
    simp only [laws_toArrS.l0]
    rw [if_neg (by omega), List.take_of_length_le (by omega)]
    simp
  | succ d ih =>
    intro k i h0 h1 hd hk
    obtain ⟨k, rfl⟩ : ∃ m, k = m + 1 := ⟨k - 1, by omega⟩
    simp only [laws_toArrS.l0]
    have hlen : ((l.take i.toNat).map cvA ++ List.replicate (d + 1) z91).length = l.length := by
      rw [List.length_append, List.length_map, List.length_take, List.length_replicate]; omega
    obtain ⟨hi, e⟩ := rd141 l i h0 (by omega)
    rw [if_pos (by omega), if_pos h0, e]
    simp only [laws_toArr.f, Option.bind_some]
    rw [if_pos (by rw [hlen]; omega), Math.w64_id (by omega) (by omega)]
    have e : ((l.take i.toNat).map cvA ++ List.replicate (d + 1) z91).set i.toNat (⟨l[i.toNat].f0, l[i.toNat].f1⟩ : S91) = (l.take (i + 1).toNat).map cvA ++ List.replicate d z91 := by
      rw [show (i + 1).toNat = i.toNat + 1 by omega, List.take_succ_eq_append_getElem hi, List.set_append, if_neg (by rw [List.length_map, List.length_take]; omega), List.length_map, List.length_take, Nat.min_eq_left (by omega), Nat.sub_self]
      simp only [List.replicate_succ, List.set_cons_zero, List.map_append, List.map_cons, List.map_nil]
      rw [List.append_assoc]
      rfl
    rw [e]
    exact ih k (i + 1) (by omega) (by omega) (by omega) (by omega)
theorem toArrS_is (l : List S141) (hn : l.length ≤ 1048576) (k : Nat) (hk : l.length < k) : laws_toArrS.f k l = some (l.map cvA) := by
  unfold laws_toArrS.f
  rw [if_pos (by omega), if_pos (by omega)]
  have := toArrS_loop l hn l.length k 0 (by omega) (by omega) (by omega) hk
  simpa using this
theorem toDecl_is (l0 l1 : List ByteArray) (l2 : List S141) (b0 : FitS l0) (b1 : FitS l1) (b2 : FitA l2) (k : Nat) (hk : 1048576 < k) : laws_toDecl.f k l0 l1 l2 = some (l0, l1, l2.map cvA) := by
  unfold laws_toDecl.f
  rw [toStringS_is l0 b0.1 k (by have := b0.1; omega), Option.bind_some, toStringS_is l1 b1.1 k (by have := b1.1; omega), Option.bind_some, toArrS_is l2 b2.1 k (by have := b2.1; omega)]
  rfl
theorem eqStringS_self (l : List ByteArray) (hn : l.length ≤ 1048576) (k : Nat) (hk : l.length < k) : laws_eqStringS.f k l l = some true := by
  have key : ∀ (d k : Nat) (i : Int), 0 ≤ i → i ≤ l.length → (l.length : Int) - i = d → d < k → laws_eqStringS.l0 k l l i = some true := by
    intro d
    induction d with
    | zero =>
      intro k i h0 h1 hd hk
      obtain ⟨k, rfl⟩ : ∃ m, k = m + 1 := ⟨k - 1, by omega⟩
      simp only [laws_eqStringS.l0]
      rw [if_neg (by omega)]
    | succ d ih =>
      intro k i h0 h1 hd hk
      obtain ⟨k, rfl⟩ : ∃ m, k = m + 1 := ⟨k - 1, by omega⟩
      simp only [laws_eqStringS.l0]
      rw [if_pos (by omega), if_pos h0, if_pos (by omega), if_pos trivial, Math.w64_id (by omega) (by omega)]
      exact ih k (i + 1) (by omega) (by omega) (by omega) (by omega)
  unfold laws_eqStringS.f
  rw [if_pos rfl]
  exact key l.length k 0 (by omega) (by omega) (by omega) hk
theorem eqArrS_self (l : List S91) (hn : l.length ≤ 1048576) (k : Nat) (hk : l.length < k) : laws_eqArrS.f k l l = some true := by
  have key : ∀ (d k : Nat) (i : Int), 0 ≤ i → i ≤ l.length → (l.length : Int) - i = d → d < k → laws_eqArrS.l0 k l l i = some true := by
    intro d
    induction d with
    | zero =>
      intro k i h0 h1 hd hk
      obtain ⟨k, rfl⟩ : ∃ m, k = m + 1 := ⟨k - 1, by omega⟩
      simp only [laws_eqArrS.l0]
      rw [if_neg (by omega)]
    | succ d ih =>
      intro k i h0 h1 hd hk
      obtain ⟨k, rfl⟩ : ∃ m, k = m + 1 := ⟨k - 1, by omega⟩
      simp only [laws_eqArrS.l0]
      rw [if_pos (by omega), if_pos h0, if_pos (by omega)]
      simp only [laws_eqArr.f, if_true, Option.bind_some]
      rw [Math.w64_id (by omega) (by omega)]
      exact ih k (i + 1) (by omega) (by omega) (by omega) (by omega)
  unfold laws_eqArrS.f
  rw [if_pos rfl]
  exact key l.length k 0 (by omega) (by omega) (by omega) hk
theorem eqDecl_self (l0 l1 : List ByteArray) (l2 : List S91) (b0 : l0.length ≤ 1048576) (b1 : l1.length ≤ 1048576) (b2 : l2.length ≤ 1048576) (k : Nat) (hk : 1048576 < k) : laws_eqDecl.f k l0 l1 l2 l0 l1 l2 = some true := by
  unfold laws_eqDecl.f
  rw [eqStringS_self l0 b0 k (by omega), Option.bind_some, if_pos rfl, eqStringS_self l1 b1 k (by omega), Option.bind_some, if_pos rfl, eqArrS_self l2 b2 k (by omega), Option.bind_some, if_pos rfl]

open impl_Decl_isRight in
theorem key_l (s : ByteArray) (l : List ByteArray) (hl : l.length ≤ 2097152) : ∀ (n i k : Nat), i + n = l.length → n < k → spec_l3Key.l0 k s l i = some (has (l.drop i) s)
  | 0, i, k + 1, hi, _ => by
    unfold spec_l3Key.l0
    rw [if_neg (by omega), List.drop_eq_nil_of_le (by omega)]
    rfl
  | n + 1, i, k + 1, hi, hk => by
    have hlt : i < l.length := by omega
    have hd : rdOf ByteArray.empty l (i : Int) = l[i] := by unfold rdOf; simp [List.getD_eq_getElem?_getD, hlt]
    have hc : l.drop i = l[i] :: l.drop (i + 1) := List.drop_eq_getElem_cons hlt
    unfold spec_l3Key.l0
    rw [if_pos (by omega), if_pos (by omega), hd, w1 i (by omega), hc]
    unfold has
    rw [List.any_cons]
    by_cases he : s = l[i]
    · rw [if_pos ((teq _ _).2 he.symm)]
      simp [he]
    · rw [if_neg (fun h => he ((teq _ _).1 h).symm), key_l s l hl n (i + 1) k (by omega) (by omega)]
      simp [he, has]
open impl_Decl_isRight in
theorem specKey_is (s : ByteArray) (k : Nat) (hk : 16 < k) : spec_l3Key.f k s = some (has impl_isWord.words s) := key_l s impl_isWord.words (by decide) 16 0 k rfl hk
open impl_Decl_isRight in
theorem specName_l (s : ByteArray) (hs : s.size ≤ 1048576) : ∀ n i k, i + n = s.size → n + 20 < k → spec_l3Name.l0 k s i = some (((s.data.toList.drop i).all fun c => decide (97 ≤ c.toNat ∧ c.toNat ≤ 122)) && decide (1 ≤ s.size ∧ s.size ≤ 8) && !(has impl_isWord.words s))
  | 0, i, k + 1, hi, hk => by
    have hz : s.data.toList.length = s.size := rfl
    unfold spec_l3Name.l0 spec_l1In.f
    rw [if_neg (by omega), List.drop_eq_nil_of_le (by omega), specKey_is s k (by omega)]
    by_cases h1 : 1 ≤ s.size
    · rw [if_pos (by omega)]
      by_cases h8 : s.size ≤ 8
      · have h1' : (1 : Int) ≤ (s.size : Int) := by omega
        have h8' : (s.size : Int) ≤ 8 := by omega
        simp [h1, h8, h1', h8']
      · have h8' : ¬ (s.size : Int) ≤ 8 := by omega
        simp [h1, h8, h8']
    · rw [if_neg (by omega)]
      simp [h1]
  | n + 1, i, k + 1, hi, hk => by
    have hz : s.data.toList.length = s.size := rfl
    have hlt : i < s.size := by omega
    have hc : s.data.toList.drop i = (s.data.toList[i]'hlt) :: s.data.toList.drop (i + 1) := List.drop_eq_getElem_cons hlt
    unfold spec_l3Name.l0
    rw [if_pos (by omega), if_pos (by omega), impl_Decl_isRight.byte s i hlt, w1 i (by omega), specName_l s hs n (i + 1) k (by omega) (by omega), hc]
    generalize s.data.toList[i]'hlt = b
    by_cases h1 : 97 ≤ b.toNat
    · rw [if_neg (by omega)]
      by_cases h2 : b.toNat ≤ 122
      · rw [if_neg (by omega)]
        simp [h1, h2]
      · rw [if_pos (by omega)]
        simp [h2]
    · rw [if_pos (by omega)]
      simp [h1]
open impl_Decl_isRight in
theorem specName_is (s : ByteArray) (hs : s.size ≤ 1048576) (k : Nat) (hk : 1048600 < k) : spec_l3Name.f k s = some (nameB s) := specName_l s hs s.size 0 k (by omega) (by omega)
open impl_Decl_isRight in
theorem place_l (l : List ByteArray) (s : ByteArray) (hl : l.length ≤ 4194304) : ∀ n i k, i + n = l.length → n < k → ∃ t, spec_l3Place.l0 k l s i = some t ∧ decide (t ≥ 0) = has (l.drop i) s
  | 0, i, k + 1, hi, _ => by
    refine ⟨-1, ?_, ?_⟩
    · unfold spec_l3Place.l0
      rw [if_neg (by omega)]
    · rw [List.drop_eq_nil_of_le (by omega)]; rfl
  | n + 1, i, k + 1, hi, hk => by
    have hlt : i < l.length := by omega
    have hd : rdOf ByteArray.empty l (i : Int) = l[i] := by unfold rdOf; simp [List.getD_eq_getElem?_getD, hlt]
    have hc : l.drop i = l[i] :: l.drop (i + 1) := List.drop_eq_getElem_cons hlt
    unfold spec_l3Place.l0
    rw [if_pos (by omega), if_pos (by omega), hd, w1 i (by omega)]
    by_cases he : s = l[i]
    · rw [if_pos ((teq _ _).2 he.symm)]
      exact ⟨i, rfl, by rw [hc]; unfold has; rw [List.any_cons]; simp [he]⟩
    · rw [if_neg (fun h => he ((teq _ _).1 h).symm)]
      obtain ⟨t, h1, h2⟩ := place_l l s hl n (i + 1) k (by omega) (by omega)
      exact ⟨t, h1, by rw [h2, hc]; unfold has; rw [List.any_cons]; simp [he]⟩
open impl_Decl_isRight in
theorem specRun_l (L : List ByteArray) (hl : L.length ≤ 4194304) (hs : ∀ s ∈ L, s.size ≤ 1048576) (B : Nat) (hB : 4194400 ≤ B) : ∀ n i k, i + n = L.length → n + B < k → spec_DeclOk.l1 k L i = some (run (L.take i) (L.drop i))
  | 0, i, k + 1, hi, _ => by
    unfold spec_DeclOk.l1
    rw [if_neg (by omega), List.drop_eq_nil_of_le (by omega)]
    rfl
  | n + 1, i, k + 1, hi, hk => by
    have hlt : i < L.length := by omega
    have hd : rdOf ByteArray.empty L (i : Int) = L[i] := by unfold rdOf; simp [List.getD_eq_getElem?_getD, hlt]
    have hc : L.drop i = L[i] :: L.drop (i + 1) := List.drop_eq_getElem_cons hlt
    have hlk : (L.take i).length = i := by simp; omega
    have ht : L.take (i + 1) = L.take i ++ [L[i]] := List.take_succ_eq_append_getElem hlt
    obtain ⟨t, e1, e2⟩ := place_l (L.take i) L[i] (by omega) i 0 k (by omega) (by omega)
    rw [List.drop_zero] at e2
    have ih := specRun_l L hl hs B hB n (i + 1) k (by omega) (by omega)
    unfold spec_DeclOk.l1
    rw [if_pos (by omega), if_pos (by omega), hd, w1 i (by omega), specName_is _ (hs _ (List.getElem_mem hlt)) k (by omega), if_pos (by omega), Int.toNat_natCast, hc]
    unfold run
    rw [← ht]
    have e1' : spec_l3Place.f k (L.take i) L[i] = some t := e1
    rw [e1', Option.bind_some, Option.bind_some, ← e2]
    cases nameB L[i] with
    | false => simp
    | true =>
      by_cases htt : t ≥ 0
      · have h2 : decide (t ≥ 0) = true := decide_eq_true htt
        rw [h2, if_pos rfl, if_pos htt]; rfl
      · have h2 : decide (t ≥ 0) = false := decide_eq_false htt
        rw [h2, if_pos rfl, if_neg htt, ih]; simp
open impl_Decl_isRight in
theorem specArr_l (l0 l1 : List ByteArray) (l2 : List S91) (hl : l2.length ≤ 1048576) (hs : ∀ x ∈ l2, x.f0.size ≤ 1048576) (B : Nat) (hB : 8400000 ≤ B) (M : Nat) (hM : M = 4194304) : ∀ n i k (X : List ByteArray), i + n = l2.length → n + X.length ≤ M → (∀ s ∈ X, s.size ≤ 1048576) → n + B < k → spec_DeclOk.l0 k X i l0 l1 l2 = some ((l2.drop i).all sizeB && run [] (X ++ (l2.drop i).map (·.f0)))
  | 0, i, k + 1, X, hi, hX, hsX, hk => by
    unfold spec_DeclOk.l0
    rw [if_neg (by omega), List.drop_eq_nil_of_le (by omega), show (0 : Int) = ((0 : Nat) : Int) from rfl, specRun_l X (by omega) hsX 4194400 (Nat.le_refl _) X.length 0 k (by omega) (by omega)]
    simp
  | n + 1, i, k + 1, X, hi, hX, hsX, hk => by
    have hlt : i < l2.length := by omega
    have hd : rd_T91 l2 (i : Int) = l2[i] := by unfold rd_T91; simp [List.getD_eq_getElem?_getD, hlt]
    have hc : l2.drop i = l2[i] :: l2.drop (i + 1) := List.drop_eq_getElem_cons hlt
    have ih := specArr_l l0 l1 l2 hl hs B hB M hM n (i + 1) k (X ++ [l2[i].f0]) (by omega) (by simp; omega) (fun s hm => by
      rcases List.mem_append.1 hm with hm | hm
      · exact hsX s hm
      · rw [List.mem_singleton.1 hm]; exact hs _ (List.getElem_mem hlt)) (by omega)
    have hin : spec_l1In.f l2[i].f1 1 16 = some (sizeB l2[i]) := by
      unfold spec_l1In.f sizeB
      by_cases h1 : 1 ≤ l2[i].f1 <;> by_cases h2 : l2[i].f1 ≤ 16 <;> simp [h1, h2]
    unfold spec_DeclOk.l0
    rw [if_pos (by omega), if_pos (by omega), hd, w1 i (by omega), hin, if_pos (by omega), ih, hc, Option.bind_some, List.all_cons, List.map_cons]
    cases sizeB l2[i] with
    | false => rw [if_neg (by decide)]; rfl
    | true => rw [if_pos rfl, Bool.true_and, List.append_assoc]; rfl
open impl_Decl_isRight in
theorem specDeclOk_is (l0 l1 : List ByteArray) (l2 : List S91) (b0 : FitS l0) (b1 : FitS l1) (hl : l2.length ≤ 1048576) (hs : ∀ x ∈ l2, x.f0.size ≤ 1048576) (k : Nat) (hk : 16800000 < k) : spec_DeclOk.f k l0 l1 l2 = some (ok l0 l1 l2) := by
  obtain ⟨k, rfl⟩ : ∃ m, k = m + 1 := ⟨k - 1, by omega⟩
  unfold spec_DeclOk.f ok
  have hj : ∀ b, spec_DeclOk.j0 (k + 1) b l0 l1 l2 = some (!b && (l2.all sizeB && run [] (l0 ++ l1 ++ l2.map (·.f0)))) := by
    intro b
    simp only [spec_DeclOk.j0]
    cases b with
    | true => rfl
    | false =>
      rw [if_neg (by decide), Option.bind_some, if_pos (by have := b0.1; simp; omega), Option.bind_some, if_pos (by have := b0.1; have := b1.1; simp; omega)]
      rw [show (0 : Int) = ((0 : Nat) : Int) from rfl, specArr_l l0 l1 l2 hl hs 8400000 (Nat.le_refl _) 4194304 rfl l2.length 0 k _ (by omega) (by have := b0.1; have := b1.1; simp; omega) (fun s hm => by
        rw [List.nil_append] at hm
        rcases List.mem_append.1 hm with hm | hm
        · exact b0.2 s hm
        · exact b1.2 s hm) (by omega)]
      simp
  rw [hj, hj]
  by_cases h5 : l0.length ≤ 5
  · rw [if_neg (by omega)]
    by_cases h3 : l1.length ≤ 3
    · rw [if_neg (by omega)]
      by_cases h2 : l2.length ≤ 2
      · have h2' : ¬ ((l2.length : Int) > 2) := by omega
        simp only [h5, h3, h2, h2', decide_true, decide_false, Bool.and_true, Bool.not_false, Bool.true_and]
        rw [Bool.and_comm]
      · have h2' : ((l2.length : Int) > 2) := by omega
        simp [h2, h2']
    · rw [if_pos (by omega)]
      simp [h3]
  · rw [if_pos (by omega)]
    simp [h5]
open impl_Decl_isRight in
theorem isRight_is (l0 l1 : List ByteArray) (l2 : List S91) (b0 : FitS l0) (b1 : FitS l1) (hl : l2.length ≤ 1048576) (hs : ∀ x ∈ l2, x.f0.size ≤ 1048576) : impl_Decl_isRight.f l0 l1 l2 = some (ok l0 l1 l2) := by
  unfold impl_Decl_isRight.f
  rw [if_pos]
  refine ⟨by have := b0.1; have := b1.1; omega, fun s hm => ?_⟩
  have : s.size ≤ 1048576 := by
    rcases List.mem_append.1 hm with hm | hm
    · rcases List.mem_append.1 hm with hm | hm
      · exact b0.2 s hm
      · exact b1.2 s hm
    · obtain ⟨x, hx, rfl⟩ := List.mem_map.1 hm
      exact hs x hx
  omega

def cvI (x : S149) : S78 := ⟨x.f0, x.f1⟩
def OkV (l : List S149) : Prop := l.length ≤ 9223372036854775807
theorem rd78 (l : List S78) (i : Nat) (h : i < l.length) : rd_T78 l (i : Int) = l[i] := by unfold rd_T78; simp [List.getD_eq_getElem?_getD, h]
theorem szIvS_is (l : List S149) (b : OkV l) (a : Int) (ha : 0 ≤ a) (hb : a ≤ 1048576) : ∃ t, laws_szIntervalS.f l a = some t ∧ t ≤ a ∧ (0 ≤ t → l.length ≤ 1048576) := by
  unfold laws_szIntervalS.f
  unfold OkV at b
  rw [Math.w64_id (by omega) (by omega)]
  by_cases hn : a - (l.length : Int) < 0
  · rw [if_pos hn]; exact ⟨-1, rfl, by omega, fun h => absurd h (by decide)⟩
  · rw [if_neg hn]; exact ⟨_, rfl, by omega, fun h => by omega⟩
theorem szEnv_is (v : Bool) (l1 l2 : List S149) (b1 : OkV l1) (b2 : OkV l2) (a : Int) (ha : 0 ≤ a) (hb : a ≤ 1048576) :
    ∃ t, laws_szEnv.f v l1 l2 a = some t ∧ t ≤ a ∧ (0 ≤ t → l1.length ≤ 1048576 ∧ l2.length ≤ 1048576) := by
  obtain ⟨t0, e0, f0, g0⟩ := szIvS_is l1 b1 a ha hb
  unfold laws_szEnv.f
  rw [e0, Option.bind_some]
  by_cases n0 : t0 < 0
  · rw [if_pos n0]; exact ⟨-1, rfl, by omega, fun h => absurd h (by decide)⟩
  rw [if_neg n0]
  obtain ⟨t1, e1, f1, g1⟩ := szIvS_is l2 b2 t0 (by omega) (by omega)
  rw [e1, Option.bind_some]
  by_cases n1 : t1 < 0
  · rw [if_pos n1]; exact ⟨-1, rfl, by omega, fun h => absurd h (by decide)⟩
  rw [if_neg n1]
  exact ⟨t1, rfl, by omega, fun _ => ⟨g0 (by omega), g1 (by omega)⟩⟩
theorem toIvS_loop (l : List S149) (hn : l.length ≤ 1048576) (d : Nat) : ∀ (k : Nat) (i : Int), 0 ≤ i → i ≤ l.length → (l.length : Int) - i = d → d < k →
    laws_toIntervalS.l0 k l ((l.take i.toNat).map cvI ++ List.replicate d z78) i = some (l.map cvI) := by
  induction d with
  | zero =>
    intro k i h0 h1 hd hk
    obtain ⟨k, rfl⟩ : ∃ m, k = m + 1 := ⟨k - 1, by omega⟩
    simp only [laws_toIntervalS.l0]
    rw [if_neg (by omega), List.take_of_length_le (by omega)]
    simp
  | succ d ih =>
    intro k i h0 h1 hd hk
    obtain ⟨k, rfl⟩ : ∃ m, k = m + 1 := ⟨k - 1, by omega⟩
    simp only [laws_toIntervalS.l0]
    have hlen : ((l.take i.toNat).map cvI ++ List.replicate (d + 1) z78).length = l.length := by
      rw [List.length_append, List.length_map, List.length_take, List.length_replicate]; omega
    have hi : i.toNat < l.length := by omega
    have e : rd_T149 l i = l[i.toNat] := by unfold rd_T149; simp [List.getD_eq_getElem?_getD, hi]
    rw [if_pos (by omega), if_pos h0, e]
    simp only [laws_toInterval.f, Option.bind_some]
    rw [if_pos (by rw [hlen]; omega), Math.w64_id (by omega) (by omega)]
    have e : ((l.take i.toNat).map cvI ++ List.replicate (d + 1) z78).set i.toNat (⟨l[i.toNat].f0, l[i.toNat].f1⟩ : S78) = (l.take (i + 1).toNat).map cvI ++ List.replicate d z78 := by
      rw [show (i + 1).toNat = i.toNat + 1 by omega, List.take_succ_eq_append_getElem hi, List.set_append, if_neg (by rw [List.length_map, List.length_take]; omega), List.length_map, List.length_take, Nat.min_eq_left (by omega), Nat.sub_self]
      simp only [List.replicate_succ, List.set_cons_zero, List.map_append, List.map_cons, List.map_nil]
      rw [List.append_assoc]
      rfl
    rw [e]
    exact ih k (i + 1) (by omega) (by omega) (by omega) (by omega)
theorem toIvS_is (l : List S149) (hn : l.length ≤ 1048576) (k : Nat) (hk : l.length < k) : laws_toIntervalS.f k l = some (l.map cvI) := by
  unfold laws_toIntervalS.f
  rw [if_pos (by omega), if_pos (by omega)]
  have := toIvS_loop l hn l.length k 0 (by omega) (by omega) (by omega) hk
  simpa using this
theorem toEnv_is (v : Bool) (l1 l2 : List S149) (b1 : l1.length ≤ 1048576) (b2 : l2.length ≤ 1048576) (k : Nat) (hk : 1048576 < k) : laws_toEnv.f k v l1 l2 = some (v, l1.map cvI, l2.map cvI) := by
  unfold laws_toEnv.f
  rw [toIvS_is l1 b1 k (by omega), Option.bind_some, toIvS_is l2 b2 k (by omega)]
  rfl
theorem eqIvS_self (l : List S78) (hn : l.length ≤ 1048576) (k : Nat) (hk : l.length < k) : laws_eqIntervalS.f k l l = some true := by
  have key : ∀ (d k : Nat) (i : Int), 0 ≤ i → i ≤ l.length → (l.length : Int) - i = d → d < k → laws_eqIntervalS.l0 k l l i = some true := by
    intro d
    induction d with
    | zero =>
      intro k i h0 h1 hd hk
      obtain ⟨k, rfl⟩ : ∃ m, k = m + 1 := ⟨k - 1, by omega⟩
      simp only [laws_eqIntervalS.l0]
      rw [if_neg (by omega)]
    | succ d ih =>
      intro k i h0 h1 hd hk
      obtain ⟨k, rfl⟩ : ∃ m, k = m + 1 := ⟨k - 1, by omega⟩
      simp only [laws_eqIntervalS.l0]
      rw [if_pos (by omega), if_pos h0, if_pos (by omega)]
      simp only [laws_eqInterval.f, if_true, Option.bind_some]
      rw [Math.w64_id (by omega) (by omega)]
      exact ih k (i + 1) (by omega) (by omega) (by omega) (by omega)
  unfold laws_eqIntervalS.f
  rw [if_pos rfl]
  exact key l.length k 0 (by omega) (by omega) (by omega) hk
theorem eqEnv_self (v : Bool) (l1 l2 : List S78) (b1 : l1.length ≤ 1048576) (b2 : l2.length ≤ 1048576) (k : Nat) (hk : 1048576 < k) : laws_eqEnv.f k v l1 l2 v l1 l2 = some true := by
  unfold laws_eqEnv.f
  rw [if_neg (by simp), eqIvS_self l1 b1 k (by omega), Option.bind_some, if_pos rfl, eqIvS_self l2 b2 k (by omega), Option.bind_some, if_pos rfl]
theorem l6List_is (v : Bool) (m1 m2 : List S78) (b1 : m1.length ≤ 1048576) (b2 : m2.length ≤ 1048576) : spec_l6List.f v m1 m2 = some (m1 ++ m2) := by
  unfold spec_l6List.f
  rw [Option.bind_some, if_pos (by simp; omega), Option.bind_some, if_pos (by simp; omega)]
  rfl
theorem specEnv_l (L : List S78) (hl : L.length ≤ 2097152) : ∀ n i k, i + n = L.length → n < k → spec_EnvOk.l0 k L i = some ((L.drop i).all impl_Decl_isEnv.ivB)
  | 0, i, k + 1, hi, _ => by
    unfold spec_EnvOk.l0
    rw [if_neg (by omega), List.drop_eq_nil_of_le (by omega)]
    rfl
  | n + 1, i, k + 1, hi, hk => by
    have hlt : i < L.length := by omega
    unfold spec_EnvOk.l0
    rw [if_pos (by omega), if_pos (by omega), rd78 L i hlt, impl_Decl_isRight.w1 i (by omega), specEnv_l L hl n (i + 1) k (by omega) (by omega), List.drop_eq_getElem_cons hlt, List.all_cons]
    unfold spec_IvOk.f impl_Decl_isEnv.ivB
    rw [Option.bind_some]
    by_cases h : L[i].f0 ≤ L[i].f1
    · simp [h]
    · simp [h]
theorem specEnvOk_is (l0 l1 : List ByteArray) (l2 : List S91) (v : Bool) (m1 m2 : List S78) (b0 : FitS l0) (b1 : FitS l1) (hl : l2.length ≤ 1048576) (hs : ∀ x ∈ l2, x.f0.size ≤ 1048576) (c1 : m1.length ≤ 1048576) (c2 : m2.length ≤ 1048576) (k : Nat) (hk : 16800000 < k) :
    spec_EnvOk.f k l0 l1 l2 v m1 m2 = some (impl_Decl_isRight.ok l0 l1 l2 && impl_Decl_isEnv.ok l0 l2 v m1 m2) := by
  obtain ⟨k, rfl⟩ : ∃ m, k = m + 1 := ⟨k - 1, by omega⟩
  have hj : ∀ b, spec_EnvOk.j0 (k + 1) b v m1 m2 = some (!b && (m1.all impl_Decl_isEnv.ivB && m2.all impl_Decl_isEnv.ivB)) := by
    intro b
    simp only [spec_EnvOk.j0]
    cases b with
    | true => rfl
    | false =>
      rw [if_neg (by decide), l6List_is v m1 m2 c1 c2, Option.bind_some, show (0 : Int) = ((0 : Nat) : Int) from rfl, specEnv_l _ (by simp; omega) (m1 ++ m2).length 0 k (by omega) (by simp; omega), List.drop_zero, List.all_append]
      rfl
  unfold spec_EnvOk.f impl_Decl_isEnv.ok
  rw [specDeclOk_is l0 l1 l2 b0 b1 hl hs _ hk, Option.bind_some, hj, hj]
  cases impl_Decl_isRight.ok l0 l1 l2 with
  | false => simp
  | true =>
    cases v with
    | false =>
      simp only [Bool.false_eq_true, if_false, if_true, Bool.true_and]
      by_cases h1 : m1.length = 0
      · rw [if_pos (by omega)]
        by_cases h2 : m2.length = 0
        · simp [-List.length_eq_zero_iff, h1, h2]
        · rw [decide_eq_true h1, decide_eq_false h2, beq_eq_false_iff_ne.mpr (by omega)]; rfl
      · rw [if_neg (by omega), decide_eq_false h1]; rfl
    | true =>
      simp only [if_true, Bool.true_and]
      by_cases h1 : m1.length = l0.length
      · rw [if_pos (by omega)]
        by_cases h2 : m2.length = l2.length
        · simp [h1, h2]
        · simp [h1, h2, Int.ofNat_inj]
      · rw [if_neg (by omega)]
        simp [h1]
theorem isEnv_is (l0 l1 : List ByteArray) (l2 : List S91) (v : Bool) (m1 m2 : List S78) (c1 : m1.length ≤ 1048576) (c2 : m2.length ≤ 1048576) : impl_Decl_isEnv.f l0 l1 l2 v m1 m2 = some (impl_Decl_isEnv.ok l0 l2 v m1 m2) := by
  unfold impl_Decl_isEnv.f
  rw [if_pos ⟨by omega, by omega⟩]

def cvT (x : S36) : S41 := ⟨x.f0, x.f1.map cvI, x.f2.map cvI⟩
def OkT (l : List S36) : Prop := l.length ≤ 9223372036854775807 ∧ ∀ x ∈ l, x.f1.length ≤ 9223372036854775807 ∧ x.f2.length ≤ 9223372036854775807
def FitT (l : List S36) : Prop := l.length ≤ 1048576 ∧ ∀ x ∈ l, x.f1.length ≤ 1048576 ∧ x.f2.length ≤ 1048576
def FitU (l : List S41) : Prop := l.length ≤ 1048576 ∧ ∀ x ∈ l, x.f1.length ≤ 1048576 ∧ x.f2.length ≤ 1048576
theorem rd36 (l : List S36) (i : Int) (h0 : 0 ≤ i) (h1 : i < l.length) : ∃ h : i.toNat < l.length, rd_T36 l i = l[i.toNat] := by
  have h : i.toNat < l.length := by omega
  refine ⟨h, ?_⟩
  unfold rd_T36
  simp [List.getD_eq_getElem?_getD, h]
theorem rd41 (l : List S41) (i : Nat) (h : i < l.length) : rd_T41 l (i : Int) = l[i] := by unfold rd_T41; simp [List.getD_eq_getElem?_getD, h]
theorem szEnvS_loop (l : List S36) (b : OkT l) : ∀ (d k : Nat) (i a : Int), 0 ≤ i → i ≤ l.length → (l.length : Int) - i = d → d < k → 0 ≤ a → a ≤ 1048576 →
    ∃ t, laws_szEnvS.l0 k l a i = some t ∧ t ≤ a ∧ (0 ≤ t → ∀ (j : Nat) (h : j < l.length), i ≤ j → l[j].f1.length ≤ 1048576 ∧ l[j].f2.length ≤ 1048576) := by
  intro d
  induction d with
  | zero =>
    intro k i a h0 h1 hd hk ha hb
    obtain ⟨k, rfl⟩ : ∃ m, k = m + 1 := ⟨k - 1, by omega⟩
    simp only [laws_szEnvS.l0]
    rw [if_neg (by omega)]
    exact ⟨a, rfl, Int.le_refl _, fun _ j h hj => absurd h (by omega)⟩
  | succ d ih =>
    intro k i a h0 h1 hd hk ha hb
    obtain ⟨k, rfl⟩ : ∃ m, k = m + 1 := ⟨k - 1, by omega⟩
    simp only [laws_szEnvS.l0]
    obtain ⟨hi, e⟩ := rd36 l i h0 (by omega)
    have hx := b.2 _ (List.getElem_mem hi)
    obtain ⟨t0, e0, f0, g0⟩ := szEnv_is l[i.toNat].f0 l[i.toNat].f1 l[i.toNat].f2 hx.1 hx.2 a ha hb
    rw [if_pos (by omega), if_pos h0, e, Math.w64_id (x := i + 1) (by omega) (by have := b.1; omega), e0, Option.bind_some]
    by_cases hn : t0 < 0
    · rw [if_pos hn]
      exact ⟨-1, rfl, by omega, fun h => absurd h (by decide)⟩
    · rw [if_neg hn]
      obtain ⟨t, e1, e2, e3⟩ := ih k (i + 1) t0 (by omega) (by omega) (by omega) (by omega) (by omega) (by omega)
      refine ⟨t, e1, by omega, fun ht j h hj => ?_⟩
      by_cases hj' : (j : Int) = i
      · obtain rfl : j = i.toNat := by omega
        exact g0 (by omega)
      · exact e3 ht j h (by omega)
theorem szEnvS_is (l : List S36) (b : OkT l) (k : Nat) (hk : l.length < k) (a : Int) (ha : 0 ≤ a) (hb : a ≤ 1048576) :
    ∃ t, laws_szEnvS.f k l a = some t ∧ t ≤ a ∧ (0 ≤ t → FitT l) := by
  unfold laws_szEnvS.f
  rw [Math.w64_id (by have := b.1; omega) (by omega)]
  by_cases hn : a - (l.length : Int) < 0
  · rw [if_pos hn]
    exact ⟨-1, rfl, by omega, fun h => absurd h (by decide)⟩
  · rw [if_neg hn]
    obtain ⟨t, e1, e2, e3⟩ := szEnvS_loop l b l.length k 0 (a - (l.length : Int)) (by omega) (by omega) (by omega) hk (by omega) (by omega)
    refine ⟨t, e1, by omega, fun ht => ⟨by omega, fun x hx => ?_⟩⟩
    obtain ⟨j, hj, rfl⟩ := List.getElem_of_mem hx
    exact e3 ht j hj (by omega)
theorem toEnvS_loop (l : List S36) (hn : FitT l) (B : Nat) (hB : 1048576 < B) (d : Nat) : ∀ (k : Nat) (i : Int), 0 ≤ i → i ≤ l.length → (l.length : Int) - i = d → d + B < k →
    laws_toEnvS.l0 k l ((l.take i.toNat).map cvT ++ List.replicate d z41) i = some (l.map cvT) := by
  have hn1 := hn.1
  induction d with
  | zero =>
    intro k i h0 h1 hd hk
    obtain ⟨k, rfl⟩ : ∃ m, k = m + 1 := ⟨k - 1, by omega⟩
    simp only [laws_toEnvS.l0]
    rw [if_neg (by omega), List.take_of_length_le (by omega)]
    simp
  | succ d ih =>
    intro k i h0 h1 hd hk
    obtain ⟨k, rfl⟩ : ∃ m, k = m + 1 := ⟨k - 1, by omega⟩
    simp only [laws_toEnvS.l0]
    have hlen : ((l.take i.toNat).map cvT ++ List.replicate (d + 1) z41).length = l.length := by
      rw [List.length_append, List.length_map, List.length_take, List.length_replicate]; omega
    obtain ⟨hi, e⟩ := rd36 l i h0 (by omega)
    have hx := hn.2 _ (List.getElem_mem hi)
    rw [if_pos (by omega), if_pos h0, e, toEnv_is _ _ _ hx.1 hx.2 k (by omega), Option.bind_some]
    rw [if_pos (by rw [hlen]; omega), Math.w64_id (by omega) (by omega)]
    have e : ((l.take i.toNat).map cvT ++ List.replicate (d + 1) z41).set i.toNat (⟨l[i.toNat].f0, l[i.toNat].f1.map cvI, l[i.toNat].f2.map cvI⟩ : S41) = (l.take (i + 1).toNat).map cvT ++ List.replicate d z41 := by
      rw [show (i + 1).toNat = i.toNat + 1 by omega, List.take_succ_eq_append_getElem hi, List.set_append, if_neg (by rw [List.length_map, List.length_take]; omega), List.length_map, List.length_take, Nat.min_eq_left (by omega), Nat.sub_self]
      simp only [List.replicate_succ, List.set_cons_zero, List.map_append, List.map_cons, List.map_nil]
      rw [List.append_assoc]
      rfl
    rw [e]
    exact ih k (i + 1) (by omega) (by omega) (by omega) (by omega)
theorem toEnvS_is (l : List S36) (hn : FitT l) (k : Nat) (hk : 2097200 < k) : laws_toEnvS.f k l = some (l.map cvT) := by
  have hn1 := hn.1
  unfold laws_toEnvS.f
  rw [if_pos (by omega), if_pos (by omega)]
  have := toEnvS_loop l hn 1048577 (by decide) l.length k 0 (by omega) (by omega) (by omega) (by omega)
  simpa using this
theorem eqEnvS_self (l : List S41) (hn : FitU l) (k : Nat) (hk : 2097200 < k) : laws_eqEnvS.f k l l = some true := by
  have hn1 := hn.1
  have key : ∀ (d k : Nat) (i : Nat), (l.length : Int) - i = d → d + 1048577 < k → laws_eqEnvS.l0 k l l i = some true := by
    intro d
    induction d with
    | zero =>
      intro k i hd hk
      obtain ⟨k, rfl⟩ : ∃ m, k = m + 1 := ⟨k - 1, by omega⟩
      simp only [laws_eqEnvS.l0]
      rw [if_neg (by omega)]
    | succ d ih =>
      intro k i hd hk
      obtain ⟨k, rfl⟩ : ∃ m, k = m + 1 := ⟨k - 1, by omega⟩
      simp only [laws_eqEnvS.l0]
      have hlt : i < l.length := by omega
      have hx := hn.2 _ (List.getElem_mem hlt)
      rw [if_pos (by omega), if_pos (by omega), if_pos (by omega), rd41 l i hlt, eqEnv_self _ _ _ hx.1 hx.2 k (by omega), Option.bind_some, if_pos rfl, impl_Decl_isRight.w1 i (by omega)]
      exact ih k (i + 1) (by omega) (by omega)
  unfold laws_eqEnvS.f
  rw [if_pos rfl]
  exact key l.length k 0 (by omega) (by omega)
theorem specTable_l (l0 l1 : List ByteArray) (l2 : List S91) (X : List S41) (b0 : FitS l0) (b1 : FitS l1) (hl : l2.length ≤ 1048576) (hs : ∀ x ∈ l2, x.f0.size ≤ 1048576) (hX : FitU X) (hok : impl_Decl_isRight.ok l0 l1 l2 = true) (B : Nat) (hB : 16800000 < B) : ∀ n i k, i + n = X.length → n + B < k → spec_TableOk.l0 k X i l0 l1 l2 = some ((X.drop i).all (impl_Decl_isTable.envB l0 l2))
  | 0, i, k + 1, hi, _ => by
    unfold spec_TableOk.l0
    rw [if_neg (by omega), List.drop_eq_nil_of_le (by omega)]
    rfl
  | n + 1, i, k + 1, hi, hk => by
    have hlt : i < X.length := by omega
    have h1 := hX.1
    have hx := hX.2 _ (List.getElem_mem hlt)
    unfold spec_TableOk.l0
    rw [if_pos (by omega), if_pos (by omega), rd41 X i hlt, impl_Decl_isRight.w1 i (by omega), specEnvOk_is l0 l1 l2 _ _ _ b0 b1 hl hs hx.1 hx.2 k (by omega), hok, specTable_l l0 l1 l2 X b0 b1 hl hs hX hok B hB n (i + 1) k (by omega) (by omega), List.drop_eq_getElem_cons hlt, List.all_cons, Option.bind_some, Bool.true_and]
    unfold impl_Decl_isTable.envB
    cases impl_Decl_isEnv.ok l0 l2 X[i].f0 X[i].f1 X[i].f2 <;> rfl
theorem l8Size_is (l0 l1 : List ByteArray) (l2 : List S91) (b1 : l1.length ≤ 1048576) : spec_l8Size.f l0 l1 l2 = some (shl .i64 1 (l1.length : Int)) := by
  have hw : IntKind.u64.wrap (l1.length : Int) = (l1.length : Int) := by
    simp [IntKind.wrap, IntKind.signed, IntKind.bits]
    omega
  unfold spec_l8Size.f
  rw [hw, if_pos (by omega)]
theorem specTableOk_is (l0 l1 : List ByteArray) (l2 : List S91) (X : List S41) (b0 : FitS l0) (b1 : FitS l1) (hl : l2.length ≤ 1048576) (hs : ∀ x ∈ l2, x.f0.size ≤ 1048576) (hX : FitU X) (k : Nat) (hk : 18000000 < k) :
    spec_TableOk.f k l0 l1 l2 X = some (impl_Decl_isRight.ok l0 l1 l2 && (decide ((X.length : Int) = shl .i64 1 (l1.length : Int)) && X.all (impl_Decl_isTable.envB l0 l2))) := by
  obtain ⟨k, rfl⟩ : ∃ m, k = m + 1 := ⟨k - 1, by omega⟩
  have h1 := hX.1
  unfold spec_TableOk.f
  rw [specDeclOk_is l0 l1 l2 b0 b1 hl hs _ (by omega), Option.bind_some, l8Size_is l0 l1 l2 b1.1, Option.bind_some]
  generalize shl .i64 1 (l1.length : Int) = z
  simp only [spec_TableOk.j0]
  cases hok : impl_Decl_isRight.ok l0 l1 l2 with
  | false => rfl
  | true =>
    simp only [if_true, Bool.true_and]
    by_cases hz : (X.length : Int) = z
    · rw [if_neg (by simp [hz]), show (0 : Int) = ((0 : Nat) : Int) from rfl, specTable_l l0 l1 l2 X b0 b1 hl hs hX hok 16800001 (by decide) X.length 0 k (by omega) (by omega), List.drop_zero, decide_eq_true hz]
      rfl
    · rw [if_pos (by simp [hz]), decide_eq_false hz]
      rfl
theorem isTable_is (l0 l1 : List ByteArray) (l2 : List S91) (X : List S41) (hX : FitU X) : impl_Decl_isTable.f l0 l1 l2 X = some (decide ((X.length : Int) = shl .i64 1 (l1.length : Int)) && X.all (impl_Decl_isTable.envB l0 l2)) := by
  have h1 := hX.1
  unfold impl_Decl_isTable.f
  rw [if_pos ⟨by omega, fun x hx => by have := hX.2 x hx; omega⟩]

theorem FnExactTableOk (l0_0 l0_1 : List ByteArray) (l0_2 : List S141) (l1 : List S36) (b0_0 : OkS l0_0) (b0_1 : OkS l0_1) (b0_2 : OkA l0_2) (b1 : OkT l1) : ∃ k, laws_FnExactTableOk.f k l0_0 l0_1 l0_2 l1 = some true := by
  obtain ⟨k, hk⟩ : ∃ k, k = l0_0.length + l0_1.length + l0_2.length + l1.length + 18000010 := ⟨_, rfl⟩
  refine ⟨k, ?_⟩
  unfold laws_FnExactTableOk.f
  obtain ⟨t, e, h1, g⟩ := szDecl_is l0_0 l0_1 l0_2 b0_0 b0_1 b0_2 k (by omega) (by omega) (by omega) 1048576 (by decide) (by decide)
  rw [e, Option.bind_some]
  by_cases hn : t < 0
  · rw [if_pos hn]
  rw [if_neg hn]
  obtain ⟨t2, e2, _, g2⟩ := szEnvS_is l1 b1 k (by omega) t (by omega) (by omega)
  rw [e2, Option.bind_some]
  by_cases hn2 : t2 < 0
  · rw [if_pos hn2]
  rw [if_neg hn2]
  obtain ⟨f0, f1, f2⟩ := g (by omega)
  have c := g2 (by omega)
  have hm : (l0_2.map cvA).length ≤ 1048576 := by rw [List.length_map]; exact f2.1
  have hs : ∀ x ∈ l0_2.map cvA, x.f0.size ≤ 1048576 := fun x hx => by
    obtain ⟨y, hy, rfl⟩ := List.mem_map.1 hx
    exact f2.2 y hy
  have hX : FitU (l1.map cvT) := ⟨by rw [List.length_map]; exact c.1, fun x hx => by
    obtain ⟨y, hy, rfl⟩ := List.mem_map.1 hx
    have := c.2 y hy
    exact ⟨by unfold cvT; rw [List.length_map]; exact this.1, by unfold cvT; rw [List.length_map]; exact this.2⟩⟩
  rw [toDecl_is _ _ _ f0 f1 f2 _ (by omega), toEnvS_is _ c _ (by omega)]
  simp only [Option.bind_some]
  rw [specTableOk_is _ _ _ _ f0 f1 hm hs hX _ (by omega)]
  unfold impl_TableOk.f
  rw [isRight_is _ _ _ f0 f1 hm hs, isTable_is _ _ _ _ hX]
  simp only [Option.bind_some]
  have hb : ∀ p q : Bool, (if p = true then some q else some false) = some (p && q) := by
    intro p q; cases p <;> rfl
  rw [hb]
  simp only [Option.bind_some, bne_self_eq_false, Bool.false_eq_true, if_false]
  rw [eqDecl_self _ _ _ f0.1 f1.1 hm _ (by omega)]
  simp only [Option.bind_some, if_true]
  rw [eqEnvS_self _ hX _ (by omega)]
  rfl

end Go.Proofs.YtcomagipdbdglaaDoor.PureFnExactTableOk
