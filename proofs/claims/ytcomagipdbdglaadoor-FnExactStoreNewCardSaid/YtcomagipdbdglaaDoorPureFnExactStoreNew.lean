/- The program's StoreNew and the reference's return the same for all arguments, in memory of its own: the law's function returns true. Conditions: none. -/
import Derived.Test.YtcomagipdbdglaaDoorQx0
import Derived.Test.YtcomagipdbdglaaDoorQx1
import Derived.Test.YtcomagipdbdglaaDoorQx2
import Derived.Test.YtcomagipdbdglaaDoorQx3
import Derived.Test.YtcomagipdbdglaaDoorQx4
import Derived.Test.YtcomagipdbdglaaDoorQx5
import Derived.Test.YtcomagipdbdglaaDoorQx6
import Derived.Test.YtcomagipdbdglaaDoorQx7
import Derived.Test.YtcomagipdbdglaaDoorQx8
import Derived.Test.YtcomagipdbdglaaDoorQx9
import Derived.Test.YtcomagipdbdglaaDoorQx10
import Derived.Test.YtcomagipdbdglaaDoorQx11
import Derived.Test.YtcomagipdbdglaaDoorQx12
import Derived.Test.YtcomagipdbdglaaDoorQx13
import Derived.Test.YtcomagipdbdglaaDoorQx14
import Derived.Test.YtcomagipdbdglaaDoorQx15
import Derived.Test.YtcomagipdbdglaaDoorQx16
import Derived.Test.YtcomagipdbdglaaDoorQx17
import Derived.Test.YtcomagipdbdglaaDoorQx18
import Derived.Test.YtcomagipdbdglaaDoorQx19
import Derived.Test.YtcomagipdbdglaaDoorQx20
import Derived.Test.YtcomagipdbdglaaDoorQx21
import Derived.Test.YtcomagipdbdglaaDoorQx22
import Derived.Test.YtcomagipdbdglaaDoorQx27
import Derived.Test.YtcomagipdbdglaaDoorQx29
import Derived.Test.YtcomagipdbdglaaDoorQx30
import Derived.Test.YtcomagipdbdglaaDoorQx31
import Derived.Test.YtcomagipdbdglaaDoorQx32
import Derived.Test.YtcomagipdbdglaaDoorQx33
import Derived.Test.YtcomagipdbdglaaDoorQx34
import Derived.Test.YtcomagipdbdglaaDoorQx35
import Derived.Test.YtcomagipdbdglaaDoorQx36
import Derived.Test.YtcomagipdbdglaaDoorQx37
import Derived.Test.YtcomagipdbdglaaDoorQx38
import Derived.Test.YtcomagipdbdglaaDoorQx39
import Derived.Test.YtcomagipdbdglaaDoorQx40
import Derived.Test.YtcomagipdbdglaaDoorQx41
import Derived.Test.YtcomagipdbdglaaDoorQx42
import Derived.Test.YtcomagipdbdglaaDoorQx43
import Derived.Test.YtcomagipdbdglaaDoorQx44
import Derived.Test.YtcomagipdbdglaaDoorMath
namespace Go.Proofs.YtcomagipdbdglaaDoor.PureFnExactStoreNew
open Go.RowKit Go.Proofs.YtcomagipdbdglaaDoor Go.Proofs.YtcomagipdbdglaaDoor.Q Go.Proofs.YtcomagipdbdglaaDoorW.PrintWords Go.Proofs.YtcomagipdbdglaaDoorW.PrintLast
set_option linter.unusedVariables false
set_option linter.unusedSimpArgs false

def cvA (x : S141) : S91 := ⟨x.f0, x.f1⟩
theorem rdS (l : List ByteArray) (i : Int) (h0 : 0 ≤ i) (h1 : i < l.length) : ∃ h : i.toNat < l.length, rdOf ByteArray.empty l i = l[i.toNat] := by
  have h : i.toNat < l.length := by omega
  refine ⟨h, ?_⟩
  unfold rdOf
  simp [List.getD_eq_getElem?_getD, h]
theorem rd91 (l : List S91) (i : Int) (h0 : 0 ≤ i) (h1 : i < l.length) : ∃ h : i.toNat < l.length, rd_T91 l i = l[i.toNat] := by
  have h : i.toNat < l.length := by omega
  refine ⟨h, ?_⟩
  unfold rd_T91
  simp [List.getD_eq_getElem?_getD, h]
theorem rd141 (l : List S141) (i : Int) (h0 : 0 ≤ i) (h1 : i < l.length) : ∃ h : i.toNat < l.length, rd_T141 l i = l[i.toNat] := by
  have h : i.toNat < l.length := by omega
  refine ⟨h, ?_⟩
  unfold rd_T141
  simp [List.getD_eq_getElem?_getD, h]
def OkS (l : List ByteArray) : Prop := l.length ≤ 9223372036854775807 ∧ ∀ x ∈ l, x.size ≤ 9223372036854775807
def OkA (l : List S141) : Prop := l.length ≤ 9223372036854775807 ∧ ∀ x ∈ l, x.f0.size ≤ 9223372036854775807
def FitS (l : List ByteArray) : Prop := l.length ≤ 1048576 ∧ ∀ x ∈ l, x.size ≤ 1048576
def FitA (l : List S141) : Prop := l.length ≤ 1048576 ∧ ∀ x ∈ l, x.f0.size ≤ 1048576
theorem szStringS_loop (l : List ByteArray) (b : OkS l) : ∀ (d k : Nat) (i a : Int), 0 ≤ i → i ≤ l.length → (l.length : Int) - i = d → d < k → 0 ≤ a → a ≤ 1048576 →
    ∃ t, laws_szStringS.l0 k l a i = some t ∧ t ≤ a ∧ (0 ≤ t → ∀ (j : Nat) (h : j < l.length), i ≤ j → l[j].size ≤ 1048576) := by
  intro d
  induction d with
  | zero =>
    intro k i a h0 h1 hd hk ha hb
    obtain ⟨k, rfl⟩ : ∃ m, k = m + 1 := ⟨k - 1, by omega⟩
    simp only [laws_szStringS.l0]
    rw [if_neg (by omega)]
    exact ⟨a, rfl, Int.le_refl _, fun _ j h hj => absurd h (by omega)⟩
  | succ d ih =>
    intro k i a h0 h1 hd hk ha hb
    obtain ⟨k, rfl⟩ : ∃ m, k = m + 1 := ⟨k - 1, by omega⟩
    simp only [laws_szStringS.l0]
    obtain ⟨hi, e⟩ := rdS l i h0 (by omega)
    have hs := b.2 _ (List.getElem_mem hi)
    rw [if_pos (by omega), if_pos h0, e, Math.w64_id (by omega) (by omega), Math.w64_id (by omega) (by have := b.1; omega)]
    by_cases hn : a - (l[i.toNat].size : Int) < 0
    · rw [if_pos hn]
      exact ⟨-1, rfl, by omega, fun h => absurd h (by decide)⟩
    · rw [if_neg hn]
      obtain ⟨t, e1, e2, e3⟩ := ih k (i + 1) (a - (l[i.toNat].size : Int)) (by omega) (by omega) (by omega) (by omega) (by omega) (by omega)
      refine ⟨t, e1, by omega, fun ht j h hj => ?_⟩
      by_cases hj' : (j : Int) = i
      · obtain rfl : j = i.toNat := by omega
        omega
      · exact e3 ht j h (by omega)
theorem szStringS_is (l : List ByteArray) (b : OkS l) (k : Nat) (hk : l.length < k) (a : Int) (ha : 0 ≤ a) (hb : a ≤ 1048576) :
    ∃ t, laws_szStringS.f k l a = some t ∧ t ≤ a ∧ (0 ≤ t → FitS l) := by
  unfold laws_szStringS.f
  rw [Math.w64_id (by have := b.1; omega) (by omega)]
  by_cases hn : a - (l.length : Int) < 0
  · rw [if_pos hn]
    exact ⟨-1, rfl, by omega, fun h => absurd h (by decide)⟩
  · rw [if_neg hn]
    obtain ⟨t, e1, e2, e3⟩ := szStringS_loop l b l.length k 0 (a - (l.length : Int)) (by omega) (by omega) (by omega) hk (by omega) (by omega)
    refine ⟨t, e1, by omega, fun ht => ⟨by omega, fun x hx => ?_⟩⟩
    obtain ⟨j, hj, rfl⟩ := List.getElem_of_mem hx
    exact e3 ht j hj (by omega)
theorem szArrS_loop (l : List S141) (b : OkA l) : ∀ (d k : Nat) (i a : Int), 0 ≤ i → i ≤ l.length → (l.length : Int) - i = d → d < k → 0 ≤ a → a ≤ 1048576 →
    ∃ t, laws_szArrS.l0 k l a i = some t ∧ t ≤ a ∧ (0 ≤ t → ∀ (j : Nat) (h : j < l.length), i ≤ j → l[j].f0.size ≤ 1048576) := by
  intro d
  induction d with
  | zero =>
    intro k i a h0 h1 hd hk ha hb
    obtain ⟨k, rfl⟩ : ∃ m, k = m + 1 := ⟨k - 1, by omega⟩
    simp only [laws_szArrS.l0]
    rw [if_neg (by omega)]
    exact ⟨a, rfl, Int.le_refl _, fun _ j h hj => absurd h (by omega)⟩
  | succ d ih =>
    intro k i a h0 h1 hd hk ha hb
    obtain ⟨k, rfl⟩ : ∃ m, k = m + 1 := ⟨k - 1, by omega⟩
    simp only [laws_szArrS.l0]
    obtain ⟨hi, e⟩ := rd141 l i h0 (by omega)
    have hs := b.2 _ (List.getElem_mem hi)
    rw [if_pos (by omega), if_pos h0, e, Math.w64_id (x := i + 1) (by omega) (by have := b.1; omega)]
    unfold laws_szArr.f
    rw [Math.w64_id (by omega) (by omega)]
    by_cases hn : a - (l[i.toNat].f0.size : Int) < 0
    · rw [if_pos hn]
      exact ⟨-1, rfl, by omega, fun h => absurd h (by decide)⟩
    · rw [if_neg hn]
      simp only [Option.bind_some]
      rw [if_neg hn]
      obtain ⟨t, e1, e2, e3⟩ := ih k (i + 1) (a - (l[i.toNat].f0.size : Int)) (by omega) (by omega) (by omega) (by omega) (by omega) (by omega)
      refine ⟨t, e1, by omega, fun ht j h hj => ?_⟩
      by_cases hj' : (j : Int) = i
      · obtain rfl : j = i.toNat := by omega
        omega
      · exact e3 ht j h (by omega)
theorem szArrS_is (l : List S141) (b : OkA l) (k : Nat) (hk : l.length < k) (a : Int) (ha : 0 ≤ a) (hb : a ≤ 1048576) :
    ∃ t, laws_szArrS.f k l a = some t ∧ t ≤ a ∧ (0 ≤ t → FitA l) := by
  unfold laws_szArrS.f
  rw [Math.w64_id (by have := b.1; omega) (by omega)]
  by_cases hn : a - (l.length : Int) < 0
  · rw [if_pos hn]
    exact ⟨-1, rfl, by omega, fun h => absurd h (by decide)⟩
  · rw [if_neg hn]
    obtain ⟨t, e1, e2, e3⟩ := szArrS_loop l b l.length k 0 (a - (l.length : Int)) (by omega) (by omega) (by omega) hk (by omega) (by omega)
    refine ⟨t, e1, by omega, fun ht => ⟨by omega, fun x hx => ?_⟩⟩
    obtain ⟨j, hj, rfl⟩ := List.getElem_of_mem hx
    exact e3 ht j hj (by omega)
theorem szDecl_is (l0 l1 : List ByteArray) (l2 : List S141) (b0 : OkS l0) (b1 : OkS l1) (b2 : OkA l2) (k : Nat) (h0 : l0.length < k) (h1 : l1.length < k) (h2 : l2.length < k) (a : Int) (ha : 0 ≤ a) (hb : a ≤ 1048576) :
    ∃ t, laws_szDecl.f k l0 l1 l2 a = some t ∧ t ≤ a ∧ (0 ≤ t → FitS l0 ∧ FitS l1 ∧ FitA l2) := by
  obtain ⟨t0, e0, f0, g0⟩ := szStringS_is l0 b0 k h0 a ha hb
  unfold laws_szDecl.f
  rw [e0, Option.bind_some]
  by_cases n0 : t0 < 0
  · rw [if_pos n0]; exact ⟨-1, rfl, by omega, fun h => absurd h (by decide)⟩
  rw [if_neg n0]
  obtain ⟨t1, e1, f1, g1⟩ := szStringS_is l1 b1 k h1 t0 (by omega) (by omega)
  rw [e1, Option.bind_some]
  by_cases n1 : t1 < 0
  · rw [if_pos n1]; exact ⟨-1, rfl, by omega, fun h => absurd h (by decide)⟩
  rw [if_neg n1]
  obtain ⟨t2, e2, f2, g2⟩ := szArrS_is l2 b2 k h2 t1 (by omega) (by omega)
  rw [e2, Option.bind_some]
  by_cases n2 : t2 < 0
  · rw [if_pos n2]; exact ⟨-1, rfl, by omega, fun h => absurd h (by decide)⟩
  rw [if_neg n2]
  exact ⟨t2, rfl, by omega, fun _ => ⟨g0 (by omega), g1 (by omega), g2 (by omega)⟩⟩
theorem toStringS_loop (l : List ByteArray) (hn : l.length ≤ 1048576) (d : Nat) : ∀ (k : Nat) (i : Int), 0 ≤ i → i ≤ l.length → (l.length : Int) - i = d → d < k →
    laws_toStringS.l0 k l (l.take i.toNat ++ List.replicate d (⟨#[]⟩ : ByteArray)) i = some l := by
  induction d with
  | zero =>
    intro k i h0 h1 hd hk
    obtain ⟨k, rfl⟩ : ∃ m, k = m + 1 := ⟨k - 1, by omega⟩
    simp only [laws_toStringS.l0]
    rw [if_neg (by omega), List.take_of_length_le (by omega)]
    simp
  | succ d ih =>
    intro k i h0 h1 hd hk
    obtain ⟨k, rfl⟩ : ∃ m, k = m + 1 := ⟨k - 1, by omega⟩
    simp only [laws_toStringS.l0]
    have hlen : (l.take i.toNat ++ List.replicate (d + 1) (⟨#[]⟩ : ByteArray)).length = l.length := by
      rw [List.length_append, List.length_take, List.length_replicate]; omega
    obtain ⟨hi, e⟩ := rdS l i h0 (by omega)
    rw [if_pos (by omega), if_pos h0, e]
    rw [if_pos (by rw [hlen]; omega), Math.w64_id (by omega) (by omega)]
    have e : (l.take i.toNat ++ List.replicate (d + 1) (⟨#[]⟩ : ByteArray)).set i.toNat l[i.toNat] = l.take (i + 1).toNat ++ List.replicate d (⟨#[]⟩ : ByteArray) := by
      rw [show (i + 1).toNat = i.toNat + 1 by omega, List.take_succ_eq_append_getElem hi, List.set_append, if_neg (by rw [List.length_take]; omega), List.length_take, Nat.min_eq_left (by omega), Nat.sub_self]
      simp only [List.replicate_succ, List.set_cons_zero]
      rw [List.append_assoc]
      rfl
    rw [e]
    exact ih k (i + 1) (by omega) (by omega) (by omega) (by omega)
theorem toStringS_is (l : List ByteArray) (hn : l.length ≤ 1048576) (k : Nat) (hk : l.length < k) : laws_toStringS.f k l = some l := by
  unfold laws_toStringS.f
  rw [if_pos (by omega), if_pos (by omega)]
  have := toStringS_loop l hn l.length k 0 (by omega) (by omega) (by omega) hk
  simpa using this
theorem toArrS_loop (l : List S141) (hn : l.length ≤ 1048576) (d : Nat) : ∀ (k : Nat) (i : Int), 0 ≤ i → i ≤ l.length → (l.length : Int) - i = d → d < k →
    laws_toArrS.l0 k l ((l.take i.toNat).map cvA ++ List.replicate d z91) i = some (l.map cvA) := by
  induction d with
  | zero =>
    intro k i h0 h1 hd hk
    obtain ⟨k, rfl⟩ : ∃ m, k = m + 1 := ⟨k - 1, by omega⟩
    simp only [laws_toArrS.l0]
    rw [if_neg (by omega), List.take_of_length_le (by omega)]
    simp
  | succ d ih =>
    intro k i h0 h1 hd hk
    obtain ⟨k, rfl⟩ : ∃ m, k = m + 1 := ⟨k - 1, by omega⟩
    simp only [laws_toArrS.l0]
    have hlen : ((l.take i.toNat).map cvA ++ List.replicate (d + 1) z91).length = l.length := by
      rw [List.length_append, List.length_map, List.length_take, List.length_replicate]; omega
    obtain ⟨hi, e⟩ := rd141 l i h0 (by omega)
    rw [if_pos (by omega), if_pos h0, e]
    simp only [laws_toArr.f, Option.bind_some]
    rw [if_pos (by rw [hlen]; omega), Math.w64_id (by omega) (by omega)]
    have e : ((l.take i.toNat).map cvA ++ List.replicate (d + 1) z91).set i.toNat (⟨l[i.toNat].f0, l[i.toNat].f1⟩ : S91) = (l.take (i + 1).toNat).map cvA ++ List.replicate d z91 := by
      rw [show (i + 1).toNat = i.toNat + 1 by omega, List.take_succ_eq_append_getElem hi, List.set_append, if_neg (by rw [List.length_map, List.length_take]; omega), List.length_map, List.length_take, Nat.min_eq_left (by omega), Nat.sub_self]
      simp only [List.replicate_succ, List.set_cons_zero, List.map_append, List.map_cons, List.map_nil]
      rw [List.append_assoc]
      rfl
    rw [e]
    exact ih k (i + 1) (by omega) (by omega) (by omega) (by omega)
theorem toArrS_is (l : List S141) (hn : l.length ≤ 1048576) (k : Nat) (hk : l.length < k) : laws_toArrS.f k l = some (l.map cvA) := by
  unfold laws_toArrS.f
  rw [if_pos (by omega), if_pos (by omega)]
  have := toArrS_loop l hn l.length k 0 (by omega) (by omega) (by omega) hk
  simpa using this
theorem toDecl_is (l0 l1 : List ByteArray) (l2 : List S141) (b0 : FitS l0) (b1 : FitS l1) (b2 : FitA l2) (k : Nat) (hk : 1048576 < k) : laws_toDecl.f k l0 l1 l2 = some (l0, l1, l2.map cvA) := by
  unfold laws_toDecl.f
  rw [toStringS_is l0 b0.1 k (by have := b0.1; omega), Option.bind_some, toStringS_is l1 b1.1 k (by have := b1.1; omega), Option.bind_some, toArrS_is l2 b2.1 k (by have := b2.1; omega)]
  rfl
theorem eqStringS_self (l : List ByteArray) (hn : l.length ≤ 1048576) (k : Nat) (hk : l.length < k) : laws_eqStringS.f k l l = some true := by
  have key : ∀ (d k : Nat) (i : Int), 0 ≤ i → i ≤ l.length → (l.length : Int) - i = d → d < k → laws_eqStringS.l0 k l l i = some true := by
    intro d
    induction d with
    | zero =>
      intro k i h0 h1 hd hk
      obtain ⟨k, rfl⟩ : ∃ m, k = m + 1 := ⟨k - 1, by omega⟩
      simp only [laws_eqStringS.l0]
      rw [if_neg (by omega)]
    | succ d ih =>
      intro k i h0 h1 hd hk
      obtain ⟨k, rfl⟩ : ∃ m, k = m + 1 := ⟨k - 1, by omega⟩
      simp only [laws_eqStringS.l0]
      rw [if_pos (by omega), if_pos h0, if_pos (by omega), if_pos trivial, Math.w64_id (by omega) (by omega)]
      exact ih k (i + 1) (by omega) (by omega) (by omega) (by omega)
  unfold laws_eqStringS.f
  rw [if_pos rfl]
  exact key l.length k 0 (by omega) (by omega) (by omega) hk
theorem eqArrS_self (l : List S91) (hn : l.length ≤ 1048576) (k : Nat) (hk : l.length < k) : laws_eqArrS.f k l l = some true := by
  have key : ∀ (d k : Nat) (i : Int), 0 ≤ i → i ≤ l.length → (l.length : Int) - i = d → d < k → laws_eqArrS.l0 k l l i = some true := by
    intro d
    induction d with
    | zero =>
      intro k i h0 h1 hd hk
      obtain ⟨k, rfl⟩ : ∃ m, k = m + 1 := ⟨k - 1, by omega⟩
      simp only [laws_eqArrS.l0]
      rw [if_neg (by omega)]
    | succ d ih =>
      intro k i h0 h1 hd hk
      obtain ⟨k, rfl⟩ : ∃ m, k = m + 1 := ⟨k - 1, by omega⟩
      simp only [laws_eqArrS.l0]
      rw [if_pos (by omega), if_pos h0, if_pos (by omega)]
      simp only [laws_eqArr.f, if_true, Option.bind_some]
      rw [Math.w64_id (by omega) (by omega)]
      exact ih k (i + 1) (by omega) (by omega) (by omega) (by omega)
  unfold laws_eqArrS.f
  rw [if_pos rfl]
  exact key l.length k 0 (by omega) (by omega) (by omega) hk
theorem eqDecl_self (l0 l1 : List ByteArray) (l2 : List S91) (b0 : l0.length ≤ 1048576) (b1 : l1.length ≤ 1048576) (b2 : l2.length ≤ 1048576) (k : Nat) (hk : 1048576 < k) : laws_eqDecl.f k l0 l1 l2 l0 l1 l2 = some true := by
  unfold laws_eqDecl.f
  rw [eqStringS_self l0 b0 k (by omega), Option.bind_some, if_pos rfl, eqStringS_self l1 b1 k (by omega), Option.bind_some, if_pos rfl, eqArrS_self l2 b2 k (by omega), Option.bind_some, if_pos rfl]

open impl_Decl_isRight in
theorem key_l (s : ByteArray) (l : List ByteArray) (hl : l.length ≤ 2097152) : ∀ (n i k : Nat), i + n = l.length → n < k → spec_l3Key.l0 k s l i = some (has (l.drop i) s)
  | 0, i, k + 1, hi, _ => by
    unfold spec_l3Key.l0
    rw [if_neg (by omega), List.drop_eq_nil_of_le (by omega)]
    rfl
  | n + 1, i, k + 1, hi, hk => by
    have hlt : i < l.length := by omega
    have hd : rdOf ByteArray.empty l (i : Int) = l[i] := by unfold rdOf; simp [List.getD_eq_getElem?_getD, hlt]
    have hc : l.drop i = l[i] :: l.drop (i + 1) := List.drop_eq_getElem_cons hlt
    unfold spec_l3Key.l0
    rw [if_pos (by omega), if_pos (by omega), hd, w1 i (by omega), hc]
    unfold has
    rw [List.any_cons]
    by_cases he : s = l[i]
    · rw [if_pos ((teq _ _).2 he.symm)]
      simp [he]
    · rw [if_neg (fun h => he ((teq _ _).1 h).symm), key_l s l hl n (i + 1) k (by omega) (by omega)]
      simp [he, has]
open impl_Decl_isRight in
theorem specKey_is (s : ByteArray) (k : Nat) (hk : 16 < k) : spec_l3Key.f k s = some (has impl_isWord.words s) := key_l s impl_isWord.words (by decide) 16 0 k rfl hk
open impl_Decl_isRight in
theorem specName_l (s : ByteArray) (hs : s.size ≤ 1048576) : ∀ n i k, i + n = s.size → n + 20 < k → spec_l3Name.l0 k s i = some (((s.data.toList.drop i).all fun c => decide (97 ≤ c.toNat ∧ c.toNat ≤ 122)) && decide (1 ≤ s.size ∧ s.size ≤ 8) && !(has impl_isWord.words s))
  | 0, i, k + 1, hi, hk => by
    have hz : s.data.toList.length = s.size := rfl
    unfold spec_l3Name.l0 spec_l1In.f
    rw [if_neg (by omega), List.drop_eq_nil_of_le (by omega), specKey_is s k (by omega)]
    by_cases h1 : 1 ≤ s.size
    · rw [if_pos (by omega)]
      by_cases h8 : s.size ≤ 8
      · have h1' : (1 : Int) ≤ (s.size : Int) := by omega
        have h8' : (s.size : Int) ≤ 8 := by omega
        simp [h1, h8, h1', h8']
      · have h8' : ¬ (s.size : Int) ≤ 8 := by omega
        simp [h1, h8, h8']
    · rw [if_neg (by omega)]
      simp [h1]
  | n + 1, i, k + 1, hi, hk => by
    have hz : s.data.toList.length = s.size := rfl
    have hlt : i < s.size := by omega
    have hc : s.data.toList.drop i = (s.data.toList[i]'hlt) :: s.data.toList.drop (i + 1) := List.drop_eq_getElem_cons hlt
    unfold spec_l3Name.l0
    rw [if_pos (by omega), if_pos (by omega), impl_Decl_isRight.byte s i hlt, w1 i (by omega), specName_l s hs n (i + 1) k (by omega) (by omega), hc]
    generalize s.data.toList[i]'hlt = b
    by_cases h1 : 97 ≤ b.toNat
    · rw [if_neg (by omega)]
      by_cases h2 : b.toNat ≤ 122
      · rw [if_neg (by omega)]
        simp [h1, h2]
      · rw [if_pos (by omega)]
        simp [h2]
    · rw [if_pos (by omega)]
      simp [h1]
open impl_Decl_isRight in
theorem specName_is (s : ByteArray) (hs : s.size ≤ 1048576) (k : Nat) (hk : 1048600 < k) : spec_l3Name.f k s = some (nameB s) := specName_l s hs s.size 0 k (by omega) (by omega)
open impl_Decl_isRight in
theorem place_l (l : List ByteArray) (s : ByteArray) (hl : l.length ≤ 4194304) : ∀ n i k, i + n = l.length → n < k → ∃ t, spec_l3Place.l0 k l s i = some t ∧ decide (t ≥ 0) = has (l.drop i) s
  | 0, i, k + 1, hi, _ => by
    refine ⟨-1, ?_, ?_⟩
    · unfold spec_l3Place.l0
      rw [if_neg (by omega)]
    · rw [List.drop_eq_nil_of_le (by omega)]; rfl
  | n + 1, i, k + 1, hi, hk => by
    have hlt : i < l.length := by omega
    have hd : rdOf ByteArray.empty l (i : Int) = l[i] := by unfold rdOf; simp [List.getD_eq_getElem?_getD, hlt]
    have hc : l.drop i = l[i] :: l.drop (i + 1) := List.drop_eq_getElem_cons hlt
    unfold spec_l3Place.l0
    rw [if_pos (by omega), if_pos (by omega), hd, w1 i (by omega)]
    by_cases he : s = l[i]
    · rw [if_pos ((teq _ _).2 he.symm)]
      exact ⟨i, rfl, by rw [hc]; unfold has; rw [List.any_cons]; simp [he]⟩
    · rw [if_neg (fun h => he ((teq _ _).1 h).symm)]
      obtain ⟨t, h1, h2⟩ := place_l l s hl n (i + 1) k (by omega) (by omega)
      exact ⟨t, h1, by rw [h2, hc]; unfold has; rw [List.any_cons]; simp [he]⟩
open impl_Decl_isRight in
theorem specRun_l (L : List ByteArray) (hl : L.length ≤ 4194304) (hs : ∀ s ∈ L, s.size ≤ 1048576) (B : Nat) (hB : 4194400 ≤ B) : ∀ n i k, i + n = L.length → n + B < k → spec_DeclOk.l1 k L i = some (run (L.take i) (L.drop i))
  | 0, i, k + 1, hi, _ => by
    unfold spec_DeclOk.l1
    rw [if_neg (by omega), List.drop_eq_nil_of_le (by omega)]
    rfl
  | n + 1, i, k + 1, hi, hk => by
    have hlt : i < L.length := by omega
    have hd : rdOf ByteArray.empty L (i : Int) = L[i] := by unfold rdOf; simp [List.getD_eq_getElem?_getD, hlt]
    have hc : L.drop i = L[i] :: L.drop (i + 1) := List.drop_eq_getElem_cons hlt
    have hlk : (L.take i).length = i := by simp; omega
    have ht : L.take (i + 1) = L.take i ++ [L[i]] := List.take_succ_eq_append_getElem hlt
    obtain ⟨t, e1, e2⟩ := place_l (L.take i) L[i] (by omega) i 0 k (by omega) (by omega)
    rw [List.drop_zero] at e2
    have ih := specRun_l L hl hs B hB n (i + 1) k (by omega) (by omega)
    unfold spec_DeclOk.l1
    rw [if_pos (by omega), if_pos (by omega), hd, w1 i (by omega), specName_is _ (hs _ (List.getElem_mem hlt)) k (by omega), if_pos (by omega), Int.toNat_natCast, hc]
    unfold run
    rw [← ht]
    have e1' : spec_l3Place.f k (L.take i) L[i] = some t := e1
    rw [e1', Option.bind_some, Option.bind_some, ← e2]
    cases nameB L[i] with
    | false => simp
    | true =>
      by_cases htt : t ≥ 0
      · have h2 : decide (t ≥ 0) = true := decide_eq_true htt
        rw [h2, if_pos rfl, if_pos htt]; rfl
      · have h2 : decide (t ≥ 0) = false := decide_eq_false htt
        rw [h2, if_pos rfl, if_neg htt, ih]; simp
open impl_Decl_isRight in
theorem specArr_l (l0 l1 : List ByteArray) (l2 : List S91) (hl : l2.length ≤ 1048576) (hs : ∀ x ∈ l2, x.f0.size ≤ 1048576) (B : Nat) (hB : 8400000 ≤ B) (M : Nat) (hM : M = 4194304) : ∀ n i k (X : List ByteArray), i + n = l2.length → n + X.length ≤ M → (∀ s ∈ X, s.size ≤ 1048576) → n + B < k → spec_DeclOk.l0 k X i l0 l1 l2 = some ((l2.drop i).all sizeB && run [] (X ++ (l2.drop i).map (·.f0)))
  | 0, i, k + 1, X, hi, hX, hsX, hk => by
    unfold spec_DeclOk.l0
    rw [if_neg (by omega), List.drop_eq_nil_of_le (by omega), show (0 : Int) = ((0 : Nat) : Int) from rfl, specRun_l X (by omega) hsX 4194400 (Nat.le_refl _) X.length 0 k (by omega) (by omega)]
    simp
  | n + 1, i, k + 1, X, hi, hX, hsX, hk => by
    have hlt : i < l2.length := by omega
    have hd : rd_T91 l2 (i : Int) = l2[i] := by unfold rd_T91; simp [List.getD_eq_getElem?_getD, hlt]
    have hc : l2.drop i = l2[i] :: l2.drop (i + 1) := List.drop_eq_getElem_cons hlt
    have ih := specArr_l l0 l1 l2 hl hs B hB M hM n (i + 1) k (X ++ [l2[i].f0]) (by omega) (by simp; omega) (fun s hm => by
      rcases List.mem_append.1 hm with hm | hm
      · exact hsX s hm
      · rw [List.mem_singleton.1 hm]; exact hs _ (List.getElem_mem hlt)) (by omega)
    have hin : spec_l1In.f l2[i].f1 1 16 = some (sizeB l2[i]) := by
      unfold spec_l1In.f sizeB
      by_cases h1 : 1 ≤ l2[i].f1 <;> by_cases h2 : l2[i].f1 ≤ 16 <;> simp [h1, h2]
    unfold spec_DeclOk.l0
    rw [if_pos (by omega), if_pos (by omega), hd, w1 i (by omega), hin, if_pos (by omega), ih, hc, Option.bind_some, List.all_cons, List.map_cons]
    cases sizeB l2[i] with
    | false => rw [if_neg (by decide)]; rfl
    | true => rw [if_pos rfl, Bool.true_and, List.append_assoc]; rfl
open impl_Decl_isRight in
theorem specDeclOk_is (l0 l1 : List ByteArray) (l2 : List S91) (b0 : FitS l0) (b1 : FitS l1) (hl : l2.length ≤ 1048576) (hs : ∀ x ∈ l2, x.f0.size ≤ 1048576) (k : Nat) (hk : 16800000 < k) : spec_DeclOk.f k l0 l1 l2 = some (ok l0 l1 l2) := by
  obtain ⟨k, rfl⟩ : ∃ m, k = m + 1 := ⟨k - 1, by omega⟩
  unfold spec_DeclOk.f ok
  have hj : ∀ b, spec_DeclOk.j0 (k + 1) b l0 l1 l2 = some (!b && (l2.all sizeB && run [] (l0 ++ l1 ++ l2.map (·.f0)))) := by
    intro b
    simp only [spec_DeclOk.j0]
    cases b with
    | true => rfl
    | false =>
      rw [if_neg (by decide), Option.bind_some, if_pos (by have := b0.1; simp; omega), Option.bind_some, if_pos (by have := b0.1; have := b1.1; simp; omega)]
      rw [show (0 : Int) = ((0 : Nat) : Int) from rfl, specArr_l l0 l1 l2 hl hs 8400000 (Nat.le_refl _) 4194304 rfl l2.length 0 k _ (by omega) (by have := b0.1; have := b1.1; simp; omega) (fun s hm => by
        rw [List.nil_append] at hm
        rcases List.mem_append.1 hm with hm | hm
        · exact b0.2 s hm
        · exact b1.2 s hm) (by omega)]
      simp
  rw [hj, hj]
  by_cases h5 : l0.length ≤ 5
  · rw [if_neg (by omega)]
    by_cases h3 : l1.length ≤ 3
    · rw [if_neg (by omega)]
      by_cases h2 : l2.length ≤ 2
      · have h2' : ¬ ((l2.length : Int) > 2) := by omega
        simp only [h5, h3, h2, h2', decide_true, decide_false, Bool.and_true, Bool.not_false, Bool.true_and]
        rw [Bool.and_comm]
      · have h2' : ((l2.length : Int) > 2) := by omega
        simp [h2, h2']
    · rw [if_pos (by omega)]
      simp [h3]
  · rw [if_pos (by omega)]
    simp [h5]
open impl_Decl_isRight in
theorem isRight_is (l0 l1 : List ByteArray) (l2 : List S91) (b0 : FitS l0) (b1 : FitS l1) (hl : l2.length ≤ 1048576) (hs : ∀ x ∈ l2, x.f0.size ≤ 1048576) : impl_Decl_isRight.f l0 l1 l2 = some (ok l0 l1 l2) := by
  unfold impl_Decl_isRight.f
  rw [if_pos]
  refine ⟨by have := b0.1; have := b1.1; omega, fun s hm => ?_⟩
  have : s.size ≤ 1048576 := by
    rcases List.mem_append.1 hm with hm | hm
    · rcases List.mem_append.1 hm with hm | hm
      · exact b0.2 s hm
      · exact b1.2 s hm
    · obtain ⟨x, hx, rfl⟩ := List.mem_map.1 hm
      exact hs x hx
  omega

def FitSS (l : List (List Int)) : Prop := l.length ≤ 1048576 ∧ ∀ x ∈ l, x.length ≤ 1048576
theorem rd7 (l : List (List Int)) (i : Int) (h0 : 0 ≤ i) (h1 : i < l.length) : ∃ h : i.toNat < l.length, rd_L5 l i = l[i.toNat] := by
  have h : i.toNat < l.length := by omega
  refine ⟨h, ?_⟩
  unfold rd_L5
  simp [List.getD_eq_getElem?_getD, h]
theorem eqInts_loop (l : List Int) (hn : l.length ≤ 1048576) (d : Nat) : ∀ (k : Nat) (i : Int), 0 ≤ i → i ≤ l.length → (l.length : Int) - i = d → d < k →
    laws_eqInt64S.l0 k l l i = some true := by
  induction d with
  | zero =>
    intro k i h0 h1 hd hk
    obtain ⟨k, rfl⟩ : ∃ m, k = m + 1 := ⟨k - 1, by omega⟩
    simp only [laws_eqInt64S.l0]
    rw [if_neg (by omega)]
  | succ d ih =>
    intro k i h0 h1 hd hk
    obtain ⟨k, rfl⟩ : ∃ m, k = m + 1 := ⟨k - 1, by omega⟩
    simp only [laws_eqInt64S.l0]
    rw [if_pos (by omega), if_pos h0, if_pos (by omega), if_pos trivial, Math.w64_id (by omega) (by omega)]
    exact ih k (i + 1) (by omega) (by omega) (by omega) (by omega)
theorem eqInts_is (l : List Int) (hn : l.length ≤ 1048576) (k : Nat) (hk : l.length < k) : laws_eqInt64S.f k l l = some true := by
  unfold laws_eqInt64S.f
  rw [if_pos rfl]
  exact eqInts_loop l hn l.length k 0 (by omega) (by omega) (by omega) hk
theorem eqBools_self (l : List Bool) (hn : l.length ≤ 1048576) (k : Nat) (hk : l.length < k) : laws_eqBoolS.f k l l = some true := by
  have key : ∀ (d k : Nat) (i : Int), 0 ≤ i → i ≤ l.length → (l.length : Int) - i = d → d < k → laws_eqBoolS.l0 k l l i = some true := by
    intro d
    induction d with
    | zero =>
      intro k i h0 h1 hd hk
      obtain ⟨k, rfl⟩ : ∃ m, k = m + 1 := ⟨k - 1, by omega⟩
      simp only [laws_eqBoolS.l0]
      rw [if_neg (by omega)]
    | succ d ih =>
      intro k i h0 h1 hd hk
      obtain ⟨k, rfl⟩ : ∃ m, k = m + 1 := ⟨k - 1, by omega⟩
      simp only [laws_eqBoolS.l0]
      rw [if_pos (by omega), if_pos h0, if_pos (by omega), if_neg (by simp), Math.w64_id (by omega) (by omega)]
      exact ih k (i + 1) (by omega) (by omega) (by omega) (by omega)
  unfold laws_eqBoolS.f
  rw [if_pos rfl]
  exact key l.length k 0 (by omega) (by omega) (by omega) hk
theorem eqSS_self (l : List (List Int)) (hn : FitSS l) (k : Nat) (hk : 2097200 < k) : laws_eqInt64SS.f k l l = some true := by
  have hn1 := hn.1
  have key : ∀ (d k : Nat) (i : Int), 0 ≤ i → i ≤ l.length → (l.length : Int) - i = d → d + 1048577 < k → laws_eqInt64SS.l0 k l l i = some true := by
    intro d
    induction d with
    | zero =>
      intro k i h0 h1 hd hk
      obtain ⟨k, rfl⟩ : ∃ m, k = m + 1 := ⟨k - 1, by omega⟩
      simp only [laws_eqInt64SS.l0]
      rw [if_neg (by omega)]
    | succ d ih =>
      intro k i h0 h1 hd hk
      obtain ⟨k, rfl⟩ : ∃ m, k = m + 1 := ⟨k - 1, by omega⟩
      simp only [laws_eqInt64SS.l0]
      obtain ⟨hi, e⟩ := rd7 l i h0 (by omega)
      rw [if_pos (by omega), if_pos h0, if_pos (by omega), e, eqInts_is _ (hn.2 _ (List.getElem_mem hi)) k (by have := hn.2 _ (List.getElem_mem hi); omega), Option.bind_some, if_pos rfl, Math.w64_id (by omega) (by omega)]
      exact ih k (i + 1) (by omega) (by omega) (by omega) (by omega)
  unfold laws_eqInt64SS.f
  rw [if_pos rfl]
  exact key l.length k 0 (by omega) (by omega) (by omega) (by omega)
theorem eqStore_self (l0 : List Int) (l1 : List Bool) (l2 : List (List Int)) (b0 : l0.length ≤ 1048576) (b1 : l1.length ≤ 1048576) (b2 : FitSS l2) (k : Nat) (hk : 2097200 < k) : laws_eqStore.f k l0 l1 l2 l0 l1 l2 = some true := by
  unfold laws_eqStore.f
  rw [eqInts_is l0 b0 k (by omega), Option.bind_some, if_pos rfl, eqBools_self l1 b1 k (by omega), Option.bind_some, if_pos rfl, eqSS_self l2 b2 k hk, Option.bind_some, if_pos rfl]
theorem markText_l (n : Nat) : ∀ (k : Nat) (x : Int) (acc : ByteArray), 0 ≤ x → x < 2 ^ n → x ≤ 1099511627776 → n < k → acc.size + n ≤ 4096 → ∃ t, laws_markText.l0 k x acc = some t := by
  induction n with
  | zero =>
    intro k x acc h0 h1 _ hk hs
    obtain ⟨k, rfl⟩ : ∃ m, k = m + 1 := ⟨k - 1, by omega⟩
    simp only [laws_markText.l0]
    rw [if_neg (by simp at h1; omega), if_pos (by omega)]
    exact ⟨_, rfl⟩
  | succ n ih =>
    intro k x acc h0 h1 h2 hk hs
    obtain ⟨k, rfl⟩ : ∃ m, k = m + 1 := ⟨k - 1, by omega⟩
    simp only [laws_markText.l0]
    by_cases hx : x > 0
    · have hd : Int.tdiv x 10 = x / 10 := Int.tdiv_eq_ediv_of_nonneg h0
      rw [if_pos hx]
      simp only [Option.bind_some]
      rw [strOfNums_size, if_pos (by simp only [List.length_cons, List.length_nil]; omega), hd, Math.w64_id (x := x / 10) (by omega) (by omega)]
      refine ih k (x / 10) _ (by omega) ?_ (by omega) (by omega) ?_
      · rw [Int.pow_succ] at h1
        omega
      · rw [ByteArray.size_append, strOfNums_size]
        simp only [List.length_cons, List.length_nil]
        omega
    · rw [if_neg hx, if_pos (by omega)]
      exact ⟨_, rfl⟩
theorem markText_is (k : Nat) (x : Int) (h1 : x ≤ 1099511627776) (hk : 62 < k) : ∃ t, laws_markText.f k x = some t := by
  unfold laws_markText.f
  by_cases h : x ≤ 0
  · rw [if_pos h]; exact ⟨_, rfl⟩
  · rw [if_neg h]
    refine markText_l 62 k x _ (by omega) ?_ h1 hk (by show 0 + 62 ≤ 4096; decide)
    have : (2 : Int) ^ 62 = 4611686018427387904 := by rfl
    omega
theorem markStr_l (B : Nat) (hB : 62 < B) : ∀ (d i k : Nat) (a : Int) (x : List ByteArray), i + d = x.length → x.length ≤ 1048576 → d + B < k → 0 ≤ a → a + d ≤ 1099511627776 → ∃ x', laws_markStringS.l0 k x a (i : Int) = some (a + d, x')
  | 0, i, k + 1, a, x, hi, hx, hk, ha, hb => by
    rw [laws_markStringS.l0, if_neg (by omega)]
    exact ⟨x, by simp⟩
  | d + 1, i, k + 1, a, x, hi, hx, hk, ha, hb => by
    obtain ⟨t, et⟩ := markText_is k a (by omega) (by omega)
    rw [laws_markStringS.l0, if_pos (by omega), et, Option.bind_some, if_pos (by omega), Math.w64_id (by omega) (by omega), impl_Decl_isRight.w1 i (by omega)]
    obtain ⟨x', e⟩ := markStr_l B hB d (i + 1) k (a + 1) (x.set ((i : Int)).toNat t) (by rw [List.length_set]; omega) (by rw [List.length_set]; omega) (by omega) (by omega) (by omega)
    exact ⟨x', by rw [e, show a + 1 + (d : Int) = a + ((d + 1 : Nat) : Int) by omega]⟩
theorem markArr_l (B : Nat) (hB : 62 < B) : ∀ (d i k : Nat) (a : Int) (x : List S91), i + d = x.length → x.length ≤ 1048576 → d + B < k → 0 ≤ a → a + 2 * d ≤ 1099511627776 → ∃ x', laws_markArrS.l0 k x a (i : Int) = some (a + 2 * d, x')
  | 0, i, k + 1, a, x, hi, hx, hk, ha, hb => by
    rw [laws_markArrS.l0, if_neg (by omega)]
    exact ⟨x, by simp⟩
  | d + 1, i, k + 1, a, x, hi, hx, hk, ha, hb => by
    obtain ⟨t, et⟩ := markText_is k a (by omega) (by omega)
    rw [laws_markArrS.l0, if_pos (by omega), et, Option.bind_some, if_pos (by omega)]
    simp only [Option.bind_some]
    rw [Math.w64_id (x := a + 1) (by omega) (by omega), Math.w64_id (by omega) (by omega), impl_Decl_isRight.w1 i (by omega)]
    obtain ⟨x', e⟩ := markArr_l B hB d (i + 1) k (a + 1 + 1) ((x.set ((i : Int)).toNat ⟨t, (rd_T91 x (i : Int)).f1⟩).set ((i : Int)).toNat ⟨(rd_T91 (x.set ((i : Int)).toNat ⟨t, (rd_T91 x (i : Int)).f1⟩) (i : Int)).f0, a + 1⟩) (by rw [List.length_set, List.length_set]; omega) (by rw [List.length_set, List.length_set]; omega) (by omega) (by omega) (by omega)
    exact ⟨x', by rw [e, show a + 1 + 1 + 2 * (d : Int) = a + 2 * ((d + 1 : Nat) : Int) by omega]⟩
theorem markDecl_is (l0 l1 : List ByteArray) (l2 : List S91) (h0 : l0.length ≤ 1048576) (h1 : l1.length ≤ 1048576) (h2 : l2.length ≤ 1048576) (k : Nat) (hk : 1048700 < k) : ∃ m0 m1 m2, laws_markDecl.f k l0 l1 l2 1 = some (1 + (l0.length : Int) + (l1.length : Int) + 2 * (l2.length : Int), m0, m1, m2) := by
  obtain ⟨m0, e0⟩ := markStr_l 63 (by decide) l0.length 0 k 1 l0 (by omega) (by omega) (by omega) (by omega) (by omega)
  obtain ⟨m1, e1⟩ := markStr_l 63 (by decide) l1.length 0 k (1 + (l0.length : Int)) l1 (by omega) (by omega) (by omega) (by omega) (by omega)
  obtain ⟨m2, e2⟩ := markArr_l 63 (by decide) l2.length 0 k (1 + (l0.length : Int) + (l1.length : Int)) l2 (by omega) (by omega) (by omega) (by omega) (by omega)
  refine ⟨m0, m1, m2, ?_⟩
  unfold laws_markDecl.f laws_markStringS.f laws_markArrS.f
  rw [show ((0 : Nat) : Int) = 0 from rfl] at e0 e1 e2
  rw [e0, Option.bind_some, e1, Option.bind_some, e2]
  rfl
def seqI : Int → Nat → List Int
  | _, 0 => []
  | a, n + 1 => a :: seqI (a + 1) n
def seqB : Int → Nat → List Bool
  | _, 0 => []
  | a, n + 1 => (Int.tmod a 3 == 0) :: seqB (a + 1) n
theorem seqI_len : ∀ (n : Nat) (a : Int), (seqI a n).length = n
  | 0, _ => rfl
  | n + 1, a => by rw [seqI, List.length_cons, seqI_len n]
theorem seqB_len : ∀ (n : Nat) (a : Int), (seqB a n).length = n
  | 0, _ => rfl
  | n + 1, a => by rw [seqB, List.length_cons, seqB_len n]
theorem take_set {α : Type} (x : List α) (i : Nat) (a : α) (h : i < x.length) : (x.set i a).take (i + 1) = x.take i ++ [a] := by
  rw [List.take_succ_eq_append_getElem (by rw [List.length_set]; exact h), List.getElem_set_self, List.take_set_of_le (Nat.le_refl _)]
theorem markInt_l : ∀ (d i k : Nat) (a : Int) (x : List Int), i + d = x.length → x.length ≤ 1048576 → d < k → 0 ≤ a → a + d ≤ 1099511627776 → laws_markInt64S.l0 k x a (i : Int) = some (a + d, x.take i ++ seqI a d)
  | 0, i, k + 1, a, x, hi, hx, hk, ha, hb => by
    rw [laws_markInt64S.l0, if_neg (by omega), List.take_of_length_le (by omega), seqI]
    simp
  | d + 1, i, k + 1, a, x, hi, hx, hk, ha, hb => by
    have ih := markInt_l d (i + 1) k (a + 1) (x.set i a) (by rw [List.length_set]; omega) (by rw [List.length_set]; omega) (by omega) (by omega) (by omega)
    rw [laws_markInt64S.l0, if_pos (by omega), if_pos (by omega), Math.w64_id (by omega) (by omega), impl_Decl_isRight.w1 i (by omega), Int.toNat_natCast, ih, take_set x i a (by omega), seqI, List.append_assoc, show a + 1 + (d : Int) = a + ((d + 1 : Nat) : Int) by omega]
    rfl
theorem markInt_is (x : List Int) (a : Int) (hx : x.length ≤ 1048576) (k : Nat) (hk : x.length < k) (ha : 0 ≤ a) (hb : a + x.length ≤ 1099511627776) : laws_markInt64S.f k x a = some (a + x.length, seqI a x.length) := by
  have := markInt_l x.length 0 k a x (by omega) hx hk ha hb
  unfold laws_markInt64S.f
  simpa using this
theorem markBool_l : ∀ (d i k : Nat) (a : Int) (x : List Bool), i + d = x.length → x.length ≤ 1048576 → d < k → 0 ≤ a → a + d ≤ 1099511627776 → laws_markBoolS.l0 k x a (i : Int) = some (a + d, x.take i ++ seqB a d)
  | 0, i, k + 1, a, x, hi, hx, hk, ha, hb => by
    rw [laws_markBoolS.l0, if_neg (by omega), List.take_of_length_le (by omega), seqB]
    simp
  | d + 1, i, k + 1, a, x, hi, hx, hk, ha, hb => by
    have ih := markBool_l d (i + 1) k (a + 1) (x.set i (Int.tmod a 3 == 0)) (by rw [List.length_set]; omega) (by rw [List.length_set]; omega) (by omega) (by omega) (by omega)
    rw [laws_markBoolS.l0, if_pos (by omega), if_pos (by omega), Math.w64_id (by omega) (by omega), impl_Decl_isRight.w1 i (by omega), Int.toNat_natCast, ih, take_set x i _ (by omega), seqB, List.append_assoc, show a + 1 + (d : Int) = a + ((d + 1 : Nat) : Int) by omega]
    rfl
theorem markBool_is (x : List Bool) (a : Int) (hx : x.length ≤ 1048576) (k : Nat) (hk : x.length < k) (ha : 0 ≤ a) (hb : a + x.length ≤ 1099511627776) : laws_markBoolS.f k x a = some (a + x.length, seqB a x.length) := by
  have := markBool_l x.length 0 k a x (by omega) hx hk ha hb
  unfold laws_markBoolS.f
  simpa using this
theorem heldInt_l : ∀ (d i k : Nat) (a : Int) (x : List Int), i + d = x.length → x.length ≤ 1048576 → d < k → 0 ≤ a → a + d ≤ 1099511627776 → x.drop i = seqI a d → laws_heldInt64S.l0 k x a (i : Int) = some (a + d)
  | 0, i, k + 1, a, x, hi, hx, hk, ha, hb, _ => by
    rw [laws_heldInt64S.l0, if_neg (by omega)]
    simp
  | d + 1, i, k + 1, a, x, hi, hx, hk, ha, hb, hs => by
    have hlt : i < x.length := by omega
    rw [List.drop_eq_getElem_cons hlt, seqI] at hs
    obtain ⟨h1, h2⟩ := List.cons.inj hs
    have e : rd x (i : Int) = x[i] := by simp [rd, List.getD_eq_getElem?_getD, hlt]
    rw [laws_heldInt64S.l0, if_pos (by omega), if_pos (by omega), e, if_pos h1, Math.w64_id (by omega) (by omega), impl_Decl_isRight.w1 i (by omega), heldInt_l d (i + 1) k (a + 1) x (by omega) hx (by omega) (by omega) (by omega) h2, show a + 1 + (d : Int) = a + ((d + 1 : Nat) : Int) by omega]
theorem heldInt_is (a : Int) (n : Nat) (hx : n ≤ 1048576) (k : Nat) (hk : n < k) (ha : 0 ≤ a) (hb : a + n ≤ 1099511627776) : laws_heldInt64S.f k (seqI a n) a = some (a + n) :=
  heldInt_l n 0 k a (seqI a n) (by rw [seqI_len]; omega) (by rw [seqI_len]; omega) hk ha hb rfl
theorem heldBool_l : ∀ (d i k : Nat) (a : Int) (x : List Bool), i + d = x.length → x.length ≤ 1048576 → d < k → 0 ≤ a → a + d ≤ 1099511627776 → x.drop i = seqB a d → laws_heldBoolS.l0 k x a (i : Int) = some (a + d)
  | 0, i, k + 1, a, x, hi, hx, hk, ha, hb, _ => by
    rw [laws_heldBoolS.l0, if_neg (by omega)]
    simp
  | d + 1, i, k + 1, a, x, hi, hx, hk, ha, hb, hs => by
    have hlt : i < x.length := by omega
    rw [List.drop_eq_getElem_cons hlt, seqB] at hs
    obtain ⟨h1, h2⟩ := List.cons.inj hs
    have e : rdOf false x (i : Int) = x[i] := by simp [rdOf, List.getD_eq_getElem?_getD, hlt]
    rw [laws_heldBoolS.l0, if_pos (by omega), if_pos (by omega), e, h1, if_neg (by simp), Math.w64_id (by omega) (by omega), impl_Decl_isRight.w1 i (by omega), heldBool_l d (i + 1) k (a + 1) x (by omega) hx (by omega) (by omega) (by omega) h2, show a + 1 + (d : Int) = a + ((d + 1 : Nat) : Int) by omega]
theorem heldBool_is (a : Int) (n : Nat) (hx : n ≤ 1048576) (k : Nat) (hk : n < k) (ha : 0 ≤ a) (hb : a + n ≤ 1099511627776) : laws_heldBoolS.f k (seqB a n) a = some (a + n) :=
  heldBool_l n 0 k a (seqB a n) (by rw [seqB_len]; omega) (by rw [seqB_len]; omega) hk ha hb rfl
def marks : List (List Int) → Int → List (List Int)
  | [], _ => []
  | x :: t, a => seqI a x.length :: marks t (a + x.length)
def total : List (List Int) → Nat
  | [] => 0
  | x :: t => x.length + total t
theorem marks_len : ∀ (l : List (List Int)) (a : Int), (marks l a).length = l.length
  | [], _ => rfl
  | x :: t, a => by rw [marks, List.length_cons, marks_len t, List.length_cons]
theorem markSS_is (k : Nat) (hk : 1048576 < k) : ∀ (l : List (List Int)) (a : Int), (∀ x ∈ l, x.length ≤ 1048576) → 0 ≤ a → a + total l ≤ 1099511627776 → laws_markInt64SS.go k l a = some (a + total l, marks l a)
  | [], a, _, _, _ => by rw [laws_markInt64SS.go, marks, total]; simp
  | x :: t, a, hx, ha, hb => by
    rw [total] at hb
    have hxl := hx x (List.mem_cons_self ..)
    rw [laws_markInt64SS.go, markInt_is x a hxl k (by omega) ha (by omega), Option.bind_some]
    simp only
    rw [markSS_is k hk t (a + x.length) (fun y hy => hx y (List.mem_cons_of_mem _ hy)) (by omega) (by omega), Option.bind_some, marks, total]
    simp only
    rw [show a + (x.length : Int) + (total t : Int) = a + ((x.length + total t : Nat) : Int) by omega]
theorem heldSS_l (B : Nat) (hB : 1048576 < B) : ∀ (l : List (List Int)) (i k : Nat) (a : Int) (x : List (List Int)), i + l.length = x.length → x.length ≤ 1048576 → l.length + B < k → (∀ y ∈ l, y.length ≤ 1048576) → 0 ≤ a → a + total l ≤ 1099511627776 → x.drop i = marks l a → laws_heldInt64SS.l0 k x a (i : Int) = some (a + total l)
  | [], i, k + 1, a, x, hi, hx, hk, _, ha, hb, _ => by
    rw [List.length_nil] at hi
    rw [laws_heldInt64SS.l0, if_neg (by omega), total]
    simp
  | y :: t, i, k + 1, a, x, hi, hx, hk, hy, ha, hb, hs => by
    rw [List.length_cons] at hi hk
    rw [total] at hb
    have hlt : i < x.length := by omega
    have hyl := hy y (List.mem_cons_self ..)
    rw [List.drop_eq_getElem_cons hlt, marks] at hs
    obtain ⟨h1, h2⟩ := List.cons.inj hs
    have e : rd_L5 x (i : Int) = x[i] := by unfold rd_L5; simp [List.getD_eq_getElem?_getD, hlt]
    rw [laws_heldInt64SS.l0, if_pos (by omega), if_pos (by omega), e, h1, heldInt_is a y.length hyl k (by omega) ha (by omega), Option.bind_some, if_neg (by omega), impl_Decl_isRight.w1 i (by omega), heldSS_l B hB t (i + 1) k (a + y.length) x (by omega) hx (by omega) (fun z hz => hy z (List.mem_cons_of_mem _ hz)) (by omega) (by omega) h2, total, show a + (y.length : Int) + (total t : Int) = a + ((y.length + total t : Nat) : Int) by omega]
theorem marked (k : Nat) (hk : 3145730 < k) (l0 : List Int) (l1 : List Bool) (l2 : List (List Int)) (h0 : l0.length ≤ 1048576) (h1 : l1.length ≤ 1048576) (h2 : FitSS l2) (ht : total l2 ≤ 1048576) :
    ∃ ms n0 n1 n2, laws_markStore.f k l0 l1 l2 1 = some (ms, n0, n1, n2) ∧ laws_heldStore.f k n0 n1 n2 1 = some ms ∧ ¬ ms < 0 := by
  have h2l := h2.1
  refine ⟨1 + l0.length + l1.length + total l2, seqI 1 l0.length, seqB (1 + l0.length) l1.length, marks l2 (1 + l0.length + l1.length), ?_, ?_, by omega⟩
  · unfold laws_markStore.f laws_markInt64SS.f
    rw [markInt_is l0 1 h0 k (by omega) (by omega) (by omega), Option.bind_some]
    simp only
    rw [markBool_is l1 _ h1 k (by omega) (by omega) (by omega), Option.bind_some]
    simp only
    rw [if_pos (by omega), markSS_is k (by omega) l2 _ h2.2 (by omega) (by omega), Option.bind_some]
  · unfold laws_heldStore.f laws_heldInt64SS.f
    rw [heldInt_is 1 l0.length h0 k (by omega) (by omega) (by omega), Option.bind_some, if_neg (by omega), heldBool_is _ l1.length h1 k (by omega) (by omega) (by omega), Option.bind_some, if_neg (by omega)]
    have := heldSS_l 1048577 (by decide) l2 0 k (1 + l0.length + l1.length) (marks l2 (1 + l0.length + l1.length)) (by rw [marks_len]; omega) (by rw [marks_len]; omega) (by omega) h2.2 (by omega) (by omega) rfl
    rw [show ((0 : Nat) : Int) = 0 from rfl] at this
    rw [this, Option.bind_some, if_neg (by omega)]
def cellsOf (l : List S91) : List (List Int) := l.map fun x => List.replicate x.f1.toNat 0
theorem specNew_l (l0 l1 : List ByteArray) (l2 : List S91) (a : List Int) (b : List Bool) (hl : l2.length ≤ 2) (hs : ∀ x ∈ l2, 1 ≤ x.f1 ∧ x.f1 ≤ 16) : ∀ n i k (acc : List (List Int)), i + n = l2.length → acc.length ≤ i → n < k → spec_StoreNew.l0 k (i : Int) l0 l1 l2 a b acc = some (a, b, acc ++ cellsOf (l2.drop i))
  | 0, i, k + 1, acc, hi, ha, _ => by
    rw [spec_StoreNew.l0, if_neg (by omega), List.drop_of_length_le (by omega), cellsOf, List.map_nil, List.append_nil]
  | n + 1, i, k + 1, acc, hi, ha, hk => by
    have hlt : i < l2.length := by omega
    have e : rd_T91 l2 (i : Int) = l2[i] := by unfold rd_T91; simp [List.getD_eq_getElem?_getD, hlt]
    have h := hs _ (List.getElem_mem hlt)
    rw [spec_StoreNew.l0, if_pos (by omega), if_pos (by omega), e, if_pos (by omega), if_pos (by omega), if_pos (by omega), impl_Decl_isRight.w1 i (by omega), specNew_l l0 l1 l2 a b hl hs n (i + 1) k _ (by omega) (by rw [List.length_append, List.length_cons, List.length_nil]; omega) (by omega), List.drop_eq_getElem_cons hlt, cellsOf, cellsOf, List.map_cons, List.append_assoc]
    rfl
theorem implNew_l (l2 : List S91) (a : List Int) (b : List Bool) (hl : l2.length ≤ 2) (hs : ∀ x ∈ l2, 1 ≤ x.f1 ∧ x.f1 ≤ 16) : ∀ n i k (acc : List (List Int)), i + n = l2.length → acc.length ≤ i → n < k → impl_Decl_newStore.l0 k l2 (l2.length : Int) (i : Int) a b acc = some (a, b, acc ++ cellsOf (l2.drop i))
  | 0, i, k + 1, acc, hi, ha, _ => by
    rw [impl_Decl_newStore.l0, if_neg (by omega), List.drop_of_length_le (by omega), cellsOf, List.map_nil, List.append_nil]
  | n + 1, i, k + 1, acc, hi, ha, hk => by
    have hlt : i < l2.length := by omega
    have e : rd_T91 l2 (i : Int) = l2[i] := by unfold rd_T91; simp [List.getD_eq_getElem?_getD, hlt]
    have h := hs _ (List.getElem_mem hlt)
    rw [impl_Decl_newStore.l0, if_pos (by omega), if_pos (by omega), if_pos (by omega), e, if_pos (by omega), if_pos (by omega), if_pos (by omega), impl_Decl_isRight.w1 i (by omega), implNew_l l2 a b hl hs n (i + 1) k _ (by omega) (by rw [List.length_append, List.length_cons, List.length_nil]; omega) (by omega), List.drop_eq_getElem_cons hlt, cellsOf, cellsOf, List.map_cons, List.append_assoc]
    rfl
theorem cells_fit (l2 : List S91) (hl : l2.length ≤ 2) (hs : ∀ x ∈ l2, 1 ≤ x.f1 ∧ x.f1 ≤ 16) : FitSS (cellsOf l2) ∧ total (cellsOf l2) ≤ 1048576 := by
  have hm : ∀ x ∈ cellsOf l2, x.length ≤ 16 := fun x hx => by
    obtain ⟨y, hy, rfl⟩ := List.mem_map.1 hx
    have := hs y hy
    rw [List.length_replicate]; omega
  have hle : (cellsOf l2).length ≤ 2 := by rw [cellsOf, List.length_map]; exact hl
  refine ⟨⟨by omega, fun x hx => by have := hm x hx; omega⟩, ?_⟩
  have key : ∀ l : List (List Int), (∀ x ∈ l, x.length ≤ 16) → total l ≤ 16 * l.length := by
    intro l
    induction l with
    | nil => intro _; simp [total]
    | cons x t ih =>
      intro h
      have h1 := h x (List.mem_cons_self ..)
      have h2 := ih (fun y hy => h y (List.mem_cons_of_mem _ hy))
      rw [total, List.length_cons]; omega
  have := key _ hm
  omega
theorem stores_is (l0 l1 : List ByteArray) (l2 : List S91) (b0 : FitS l0) (b1 : FitS l1) (hl : l2.length ≤ 1048576) (hs : ∀ x ∈ l2, x.f0.size ≤ 1048576) (k : Nat) (hk : 16800000 < k) :
    ∃ s : List Int × List Bool × List (List Int), spec_StoreNew.f k l0 l1 l2 = some s ∧ impl_StoreNew.f k l0 l1 l2 = some s ∧ s.1.length ≤ 1048576 ∧ s.2.1.length ≤ 1048576 ∧ FitSS s.2.2 ∧ total s.2.2 ≤ 1048576 := by
  unfold spec_StoreNew.f impl_StoreNew.f
  rw [specDeclOk_is _ _ _ b0 b1 hl hs _ hk, isRight_is _ _ _ b0 b1 hl hs]
  simp only [Option.bind_some]
  cases hok : impl_Decl_isRight.ok l0 l1 l2 with
  | false => exact ⟨([], [], []), rfl, rfl, by decide, by decide, ⟨by decide, by simp⟩, by decide⟩
  | true =>
    unfold impl_Decl_isRight.ok at hok
    simp only [Bool.and_eq_true, decide_eq_true_eq, List.all_eq_true] at hok
    obtain ⟨⟨⟨⟨-, k0⟩, k1⟩, k2⟩, k3⟩ := hok
    have k4 : ∀ x ∈ l2, 1 ≤ x.f1 ∧ x.f1 ≤ 16 := fun x hx => by
      have := k3 x hx
      unfold impl_Decl_isRight.sizeB at this
      simpa using this
    obtain ⟨c1, c2⟩ := cells_fit l2 k2 k4
    refine ⟨(List.replicate l0.length 0, List.replicate l1.length false, cellsOf l2), ?_, ?_, by simp; omega, by simp; omega, c1, c2⟩
    · rw [if_pos rfl, if_pos (by omega), if_pos (by omega), if_pos (by omega), if_pos (by omega)]
      have := specNew_l l0 l1 l2 (List.replicate l0.length 0) (List.replicate l1.length false) k2 k4 l2.length 0 k [] (by omega) (by simp) (by omega)
      simpa using this
    · unfold impl_Decl_newStore.f
      rw [if_pos rfl, if_pos (by omega), if_pos (by omega), if_pos (by omega), if_pos (by omega)]
      have := implNew_l l2 (List.replicate l0.length 0) (List.replicate l1.length false) k2 k4 l2.length 0 k [] (by omega) (by simp) (by omega)
      rw [show ((0 : Nat) : Int) = 0 from rfl, List.drop_zero, List.nil_append] at this
      rw [Int.toNat_natCast, Int.toNat_natCast, this]
      rfl

theorem FnExactStoreNew (l0_0 l0_1 : List ByteArray) (l0_2 : List S141) (b0_0 : OkS l0_0) (b0_1 : OkS l0_1) (b0_2 : OkA l0_2) : ∃ k, laws_FnExactStoreNew.f k l0_0 l0_1 l0_2 = some true := by
  obtain ⟨k, hk⟩ : ∃ k, k = l0_0.length + l0_1.length + l0_2.length + 16800010 := ⟨_, rfl⟩
  refine ⟨k, ?_⟩
  unfold laws_FnExactStoreNew.f
  obtain ⟨t, e, h1, g⟩ := szDecl_is l0_0 l0_1 l0_2 b0_0 b0_1 b0_2 k (by omega) (by omega) (by omega) 1048576 (by decide) (by decide)
  rw [e, Option.bind_some]
  by_cases hn : t < 0
  · rw [if_pos hn]
  rw [if_neg hn]
  obtain ⟨f0, f1, f2⟩ := g (by omega)
  have hm : (l0_2.map cvA).length ≤ 1048576 := by rw [List.length_map]; exact f2.1
  have hs : ∀ x ∈ l0_2.map cvA, x.f0.size ≤ 1048576 := fun x hx => by
    obtain ⟨y, hy, rfl⟩ := List.mem_map.1 hx
    exact f2.2 y hy
  rw [toDecl_is _ _ _ f0 f1 f2 _ (by omega)]
  simp only [Option.bind_some]
  have f0l := f0.1
  have f1l := f1.1
  generalize l0_2.map cvA = A at hm hs ⊢
  obtain ⟨s, e1, e2, s0, s1, s2, s3⟩ := stores_is l0_0 l0_1 A f0 f1 hm hs k (by omega)
  obtain ⟨m0, m1, m2, e3⟩ := markDecl_is l0_0 l0_1 A f0l f1l hm k (by omega)
  obtain ⟨ms, n0, n1, n2, e4, e5, e6⟩ := marked k (by omega) s.1 s.2.1 s.2.2 s0 s1 s2 s3
  rw [e1, Option.bind_some, e2, Option.bind_some, e3, Option.bind_some, e4, Option.bind_some]
  refine if_pos ?_
  exact ⟨eqStore_self _ _ _ s0 s1 s2 k (by omega), eqDecl_self _ _ _ f0l f1l hm k (by omega), by simp only; omega, e5, e6⟩

end Go.Proofs.YtcomagipdbdglaaDoor.PureFnExactStoreNew
