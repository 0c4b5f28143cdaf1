/- The program's IvWiden and the reference's return the same for all arguments, and leave them alone: the law's function returns true. Conditions: none. -/
import Derived.Test.YtnehmiefefaanaaQx1
import Derived.Test.YtnehmiefefaanaaQx2
import Derived.Test.YtnehmiefefaanaaQx3
import Derived.Test.YtnehmiefefaanaaQx4
import Derived.Test.YtnehmiefefaanaaQx5
import Derived.Test.YtnehmiefefaanaaQx6
import Derived.Test.YtnehmiefefaanaaQx7
import Derived.Test.YtnehmiefefaanaaQx8
import Derived.Test.YtnehmiefefaanaaMath
namespace Go.Proofs.Ytnehmiefefaanaa.PureFnExactIvWiden
open Go.RowKit Go.Proofs.Ytnehmiefefaanaa Go.Proofs.Ytnehmiefefaanaa.Q Go.Proofs.YtnehmiefefaanaaW.PrintWords Go.Proofs.YtnehmiefefaanaaW.PrintLast
set_option linter.unusedVariables false
set_option linter.unusedSimpArgs false

/-- The greatest of some steps that are not above an end; the least of those that are not below one. -/
def lowF (bl : Int) (acc : Int) : List Int → Int
  | [] => acc
  | x :: xs => lowF bl (if x ≤ bl then mx acc x else acc) xs
def highF (bh : Int) (acc : Int) : List Int → Int
  | [] => acc
  | x :: xs => highF bh (if x ≥ bh then mn acc x else acc) xs
def widenV (a b c d : Int) (l : List Int) : Int × Int :=
  if a ≤ b ∧ c ≤ d ∧ l.length ≤ 100 then (if c < a then lowF c (-9223372036854775808) l else a, if d > b then highF d 9223372036854775807 l else b) else (0, 0)
theorem rd_drop (l : List Int) (i : Int) (h0 : 0 ≤ i) (h1 : i < l.length) : l.drop i.toNat = rd l i :: l.drop (i + 1).toNat := by
  unfold rd
  rw [List.drop_eq_getElem_cons (show i.toNat < l.length by omega), List.getD_eq_getElem?_getD, List.getElem?_eq_getElem (by omega), Option.getD_some, show (i + 1).toNat = i.toNat + 1 by omega]
theorem spec_l1 (l : List Int) (hn : l.length ≤ 100) (bl bh lo : Int) (d : Nat) : ∀ (k : Nat) (i hi : Int), 0 ≤ i → i ≤ l.length → (l.length : Int) - i = d → d < k →
    spec_IvWiden.l1 k l i bl bh lo hi = some (lo, highF bh hi (l.drop i.toNat)) := by
  induction d with
  | zero =>
    intro k i hi h0 h1 hd hk
    obtain ⟨k, rfl⟩ : ∃ m, k = m + 1 := ⟨k - 1, by omega⟩
    simp only [spec_IvWiden.l1]
    rw [if_neg (by omega), List.drop_eq_nil_of_le (by omega)]; rfl
  | succ d ih =>
    intro k i hi h0 h1 hd hk
    obtain ⟨k, rfl⟩ : ∃ m, k = m + 1 := ⟨k - 1, by omega⟩
    simp only [spec_IvWiden.l1]
    rw [if_pos (by omega), if_pos h0, Math.w64_id (by omega) (by omega), ih k (i + 1) _ (by omega) (by omega) (by omega) (by omega), ih k (i + 1) _ (by omega) (by omega) (by omega) (by omega), rd_drop l i h0 (by omega)]
    simp only [highF]
    split <;> rfl
theorem spec_l0 (l : List Int) (hn : l.length ≤ 100) (al ah bl bh hi : Int) (d : Nat) : ∀ (k : Nat) (i lo : Int), 0 ≤ i → i ≤ l.length → (l.length : Int) - i = d → d + 102 < k →
    spec_IvWiden.l0 k l i al ah bl bh lo hi = some (lowF bl lo (l.drop i.toNat), if bh > ah then highF bh 9223372036854775807 l else hi) := by
  induction d with
  | zero =>
    intro k i lo h0 h1 hd hk
    obtain ⟨k, rfl⟩ : ∃ m, k = m + 2 := ⟨k - 2, by omega⟩
    simp only [spec_IvWiden.l0]
    rw [if_neg (by omega), List.drop_eq_nil_of_le (by omega)]
    simp only [spec_IvWiden.j2, lowF]
    split
    · rw [spec_l1 l hn bl bh lo l.length k 0 _ (by omega) (by omega) (by omega) (by omega)]; rfl
    · rfl
  | succ d ih =>
    intro k i lo h0 h1 hd hk
    obtain ⟨k, rfl⟩ : ∃ m, k = m + 1 := ⟨k - 1, by omega⟩
    simp only [spec_IvWiden.l0]
    rw [if_pos (by omega), if_pos h0, Math.w64_id (by omega) (by omega), ih k (i + 1) _ (by omega) (by omega) (by omega) (by omega), ih k (i + 1) _ (by omega) (by omega) (by omega) (by omega), rd_drop l i h0 (by omega)]
    simp only [lowF]
    split <;> rfl
theorem spec_IvWiden_is (k : Nat) (hk : 210 ≤ k) (a b c d : Int) (l : List Int) : spec_IvWiden.f k a b c d l = some (widenV a b c d l) := by
  obtain ⟨k, rfl⟩ : ∃ m, k = m + 2 := ⟨k - 2, by omega⟩
  unfold spec_IvWiden.f spec_IvOk.f
  simp only [Option.bind_some, decide_eq_true_eq, spec_IvWiden.j0, if_true]
  by_cases h0 : a ≤ b
  · by_cases h1 : c ≤ d
    · by_cases h2 : l.length ≤ 100
      · have h3 : ¬ ((l.length : Int) > 100) := by omega
        rw [if_pos h0, if_pos h1, if_neg h3, show widenV a b c d l = (if c < a then lowF c (-9223372036854775808) l else a, if d > b then highF d 9223372036854775807 l else b) from if_pos ⟨h0, h1, h2⟩]
        by_cases h4 : c < a
        · rw [if_pos h4, if_pos h4, spec_l0 l h2 a b c d b l.length (k + 1) 0 _ (by omega) (by omega) (by omega) (by omega)]; rfl
        · rw [if_neg h4, if_neg h4]
          simp only [spec_IvWiden.j2]
          split
          · rw [spec_l1 l h2 c d a l.length k 0 _ (by omega) (by omega) (by omega) (by omega)]; rfl
          · rfl
      · have h3 : (l.length : Int) > 100 := by omega
        rw [if_pos h0, if_pos h1, if_pos h3, show widenV a b c d l = (0, 0) from if_neg (fun g => h2 g.2.2)]
    · rw [if_pos h0, if_neg h1, show widenV a b c d l = (0, 0) from if_neg (fun g => h1 g.2.1)]
  · rw [if_neg h0, show widenV a b c d l = (0, 0) from if_neg (fun g => h0 g.1)]
theorem impl_l1 (l : List Int) (hn : l.length ≤ 100) (bl bh lo : Int) (d : Nat) : ∀ (k : Nat) (i hi : Int), 0 ≤ i → i ≤ l.length → (l.length : Int) - i = d → d < k →
    impl_IvWiden.l1 k l (l.length : Int) i bl bh lo hi = some (lo, highF bh hi (l.drop i.toNat)) := by
  induction d with
  | zero =>
    intro k i hi h0 h1 hd hk
    obtain ⟨k, rfl⟩ : ∃ m, k = m + 1 := ⟨k - 1, by omega⟩
    simp only [impl_IvWiden.l1]
    rw [if_neg (by omega), List.drop_eq_nil_of_le (by omega)]; rfl
  | succ d ih =>
    intro k i hi h0 h1 hd hk
    obtain ⟨k, rfl⟩ : ∃ m, k = m + 1 := ⟨k - 1, by omega⟩
    simp only [impl_IvWiden.l1]
    rw [if_pos (by omega), if_pos h0, if_pos (by omega), Math.w64_id (by omega) (by omega), ih k (i + 1) _ (by omega) (by omega) (by omega) (by omega), ih k (i + 1) _ (by omega) (by omega) (by omega) (by omega), rd_drop l i h0 (by omega)]
    simp only [highF]
    split <;> rfl
theorem impl_l0 (l : List Int) (hn : l.length ≤ 100) (al ah bl bh hi : Int) (d : Nat) : ∀ (k : Nat) (i lo : Int), 0 ≤ i → i ≤ l.length → (l.length : Int) - i = d → d + 102 < k →
    impl_IvWiden.l0 k l l (l.length : Int) i al ah bl bh lo hi = some (lowF bl lo (l.drop i.toNat), if bh > ah then highF bh 9223372036854775807 l else hi) := by
  induction d with
  | zero =>
    intro k i lo h0 h1 hd hk
    obtain ⟨k, rfl⟩ : ∃ m, k = m + 2 := ⟨k - 2, by omega⟩
    simp only [impl_IvWiden.l0]
    rw [if_neg (by omega), List.drop_eq_nil_of_le (by omega)]
    simp only [impl_IvWiden.j2, lowF]
    split
    · rw [impl_l1 l hn bl bh lo l.length k 0 _ (by omega) (by omega) (by omega) (by omega)]; rfl
    · rfl
  | succ d ih =>
    intro k i lo h0 h1 hd hk
    obtain ⟨k, rfl⟩ : ∃ m, k = m + 1 := ⟨k - 1, by omega⟩
    simp only [impl_IvWiden.l0]
    rw [if_pos (by omega), if_pos h0, if_pos (by omega), Math.w64_id (by omega) (by omega), ih k (i + 1) _ (by omega) (by omega) (by omega) (by omega), ih k (i + 1) _ (by omega) (by omega) (by omega) (by omega), rd_drop l i h0 (by omega)]
    simp only [lowF]
    split <;> rfl
theorem impl_IvWiden_is (k : Nat) (hk : 210 ≤ k) (a b c d : Int) (l : List Int) : impl_IvWiden.f k a b c d l = some (widenV a b c d l) := by
  obtain ⟨k, rfl⟩ : ∃ m, k = m + 2 := ⟨k - 2, by omega⟩
  unfold impl_IvWiden.f impl_areIvs.f impl_IvOk.f
  simp only [Option.bind_some, decide_eq_true_eq, impl_IvWiden.j0]
  by_cases h0 : a ≤ b
  · by_cases h1 : c ≤ d
    · by_cases h2 : l.length ≤ 100
      · have h3 : ¬ ((l.length : Int) > 100) := by omega
        rw [if_pos h0, Option.bind_some, if_pos (by simpa using h1), if_neg h3, show widenV a b c d l = (if c < a then lowF c (-9223372036854775808) l else a, if d > b then highF d 9223372036854775807 l else b) from if_pos ⟨h0, h1, h2⟩]
        by_cases h4 : c < a
        · rw [if_pos h4, if_pos h4, impl_l0 l h2 a b c d b l.length (k + 1) 0 _ (by omega) (by omega) (by omega) (by omega)]; rfl
        · rw [if_neg h4, if_neg h4]
          simp only [impl_IvWiden.j2]
          split
          · rw [impl_l1 l h2 c d a l.length k 0 _ (by omega) (by omega) (by omega) (by omega)]; rfl
          · rfl
      · have h3 : (l.length : Int) > 100 := by omega
        rw [if_pos h0, Option.bind_some, if_pos (by simpa using h1), if_pos h3, show widenV a b c d l = (0, 0) from if_neg (fun g => h2 g.2.2)]
    · rw [if_pos h0, Option.bind_some, if_neg (by simpa using h1), show widenV a b c d l = (0, 0) from if_neg (fun g => h1 g.2.1)]; simp
  · rw [if_neg h0, Option.bind_some, if_neg (by simp), show widenV a b c d l = (0, 0) from if_neg (fun g => h0 g.1)]; simp

theorem toInts_loop (l : List Int) (hn : l.length ≤ 1048576) (d : Nat) : ∀ (k : Nat) (i : Int), 0 ≤ i → i ≤ l.length → (l.length : Int) - i = d → d < k →
    laws_toInt64S.l0 k l (l.take i.toNat ++ List.replicate d 0) i = some l := by
  induction d with
  | zero =>
    intro k i h0 h1 hd hk
    obtain ⟨k, rfl⟩ : ∃ m, k = m + 1 := ⟨k - 1, by omega⟩
    simp only [laws_toInt64S.l0]
    rw [if_neg (by omega), List.take_of_length_le (by omega)]
    simp
  | succ d ih =>
    intro k i h0 h1 hd hk
    obtain ⟨k, rfl⟩ : ∃ m, k = m + 1 := ⟨k - 1, by omega⟩
    simp only [laws_toInt64S.l0]
    have hlen : (l.take i.toNat ++ List.replicate (d + 1) (0 : Int)).length = l.length := by
      rw [List.length_append, List.length_take, List.length_replicate]; omega
    rw [if_pos (by omega), if_pos h0, if_pos (by rw [hlen]; omega), Math.w64_id (by omega) (by omega)]
    have e : (l.take i.toNat ++ List.replicate (d + 1) (0 : Int)).set i.toNat (rd l i) = l.take (i + 1).toNat ++ List.replicate d 0 := by
      rw [show (i + 1).toNat = i.toNat + 1 by omega, List.take_succ_eq_append_getElem (show i.toNat < l.length by omega), List.set_append, if_neg (by rw [List.length_take]; omega), List.length_take, Nat.min_eq_left (by omega), Nat.sub_self]
      unfold rd
      rw [List.getD_eq_getElem?_getD, List.getElem?_eq_getElem (by omega), Option.getD_some]
      simp only [List.replicate_succ, List.set_cons_zero]
      rw [List.append_assoc]
      rfl
    rw [e]
    exact ih k (i + 1) (by omega) (by omega) (by omega) (by omega)
theorem toInts_is (l : List Int) (hn : l.length ≤ 1048576) (k : Nat) (hk : l.length < k) : laws_toInt64S.f k l = some l := by
  unfold laws_toInt64S.f
  rw [if_pos (by omega), if_pos (by omega)]
  have := toInts_loop l hn l.length k 0 (by omega) (by omega) (by omega) hk
  simpa using this
theorem eqInts_loop (l : List Int) (hn : l.length ≤ 1048576) (d : Nat) : ∀ (k : Nat) (i : Int), 0 ≤ i → i ≤ l.length → (l.length : Int) - i = d → d < k →
    laws_eqInt64S.l0 k l l i = some true := by
  induction d with
  | zero =>
    intro k i h0 h1 hd hk
    obtain ⟨k, rfl⟩ : ∃ m, k = m + 1 := ⟨k - 1, by omega⟩
    simp only [laws_eqInt64S.l0]
    rw [if_neg (by omega)]
  | succ d ih =>
    intro k i h0 h1 hd hk
    obtain ⟨k, rfl⟩ : ∃ m, k = m + 1 := ⟨k - 1, by omega⟩
    simp only [laws_eqInt64S.l0]
    rw [if_pos (by omega), if_pos h0, if_pos (by omega), if_pos trivial, Math.w64_id (by omega) (by omega)]
    exact ih k (i + 1) (by omega) (by omega) (by omega) (by omega)
theorem eqInts_is (l : List Int) (hn : l.length ≤ 1048576) (k : Nat) (hk : l.length < k) : laws_eqInt64S.f k l l = some true := by
  unfold laws_eqInt64S.f
  rw [if_pos rfl]
  exact eqInts_loop l hn l.length k 0 (by omega) (by omega) (by omega) hk

theorem FnExactIvWiden (a0_0 a0_1 a1_0 a1_1 : Int) (l2 : List Int) (b0_0 : (-9223372036854775808 ≤ a0_0 ∧ a0_0 ≤ 9223372036854775807)) (b0_1 : (-9223372036854775808 ≤ a0_1 ∧ a0_1 ≤ 9223372036854775807)) (b1_0 : (-9223372036854775808 ≤ a1_0 ∧ a1_0 ≤ 9223372036854775807)) (b1_1 : (-9223372036854775808 ≤ a1_1 ∧ a1_1 ≤ 9223372036854775807)) (b2 : ∀ x ∈ l2, -9223372036854775808 ≤ x ∧ x ≤ 9223372036854775807) : ∃ k, laws_FnExactIvWiden.f k a0_0 a0_1 a1_0 a1_1 l2 = some true := by
  refine ⟨l2.length + 300, ?_⟩
  unfold laws_FnExactIvWiden.f
  by_cases h : (l2.length : Int) > 1048576
  · rw [if_pos h]
  · have hn : l2.length ≤ 1048576 := by omega
    rw [if_neg h]
    simp only [laws_toInterval.f, Option.bind_some, toInts_is l2 hn _ (show l2.length < l2.length + 300 by omega), spec_IvWiden_is _ (show 210 ≤ l2.length + 300 by omega), impl_IvWiden_is _ (show 210 ≤ l2.length + 300 by omega), laws_eqInterval.f, if_true, eqInts_is l2 hn _ (show l2.length < l2.length + 300 by omega)]

end Go.Proofs.Ytnehmiefefaanaa.PureFnExactIvWiden
