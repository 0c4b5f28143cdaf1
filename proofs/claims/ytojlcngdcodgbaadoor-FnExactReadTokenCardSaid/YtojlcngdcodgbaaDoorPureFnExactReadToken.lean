/- The program's ReadToken and the reference's return the same for all arguments, and leave them alone: the law's function returns true. Conditions: none. -/
import Derived.Test.YtojlcngdcodgbaaDoorQx0
import Derived.Test.YtojlcngdcodgbaaDoorQx1
import Derived.Test.YtojlcngdcodgbaaDoorQx2
import Derived.Test.YtojlcngdcodgbaaDoorQx3
import Derived.Test.YtojlcngdcodgbaaDoorQx4
import Derived.Test.YtojlcngdcodgbaaDoorQx5
import Derived.Test.YtojlcngdcodgbaaDoorQx6
import Derived.Test.YtojlcngdcodgbaaDoorQx7
import Derived.Test.YtojlcngdcodgbaaDoorQx8
import Derived.Test.YtojlcngdcodgbaaDoorQx9
import Derived.Test.YtojlcngdcodgbaaDoorQx10
import Derived.Test.YtojlcngdcodgbaaDoorQx11
import Derived.Test.YtojlcngdcodgbaaDoorQx12
import Derived.Test.YtojlcngdcodgbaaDoorQx13
import Derived.Test.YtojlcngdcodgbaaDoorQx14
import Derived.Test.YtojlcngdcodgbaaDoorQx15
import Derived.Test.YtojlcngdcodgbaaDoorQx16
import Derived.Test.YtojlcngdcodgbaaDoorQx17
import Derived.Test.YtojlcngdcodgbaaDoorQx18
import Derived.Test.YtojlcngdcodgbaaDoorMath
namespace Go.Proofs.YtojlcngdcodgbaaDoor.PureFnExactReadToken
open Go.RowKit Go.Proofs.YtojlcngdcodgbaaDoor Go.Proofs.YtojlcngdcodgbaaDoor.Q Go.Proofs.YtojlcngdcodgbaaDoorW.PrintWords Go.Proofs.YtojlcngdcodgbaaDoorW.PrintLast
set_option linter.unusedVariables false
set_option linter.unusedSimpArgs false

theorem rd40 (l : List S40) (i : Int) (h0 : 0 ≤ i) (h1 : i < l.length) : ∃ h : i.toNat < l.length, rd_T40 l i = l[i.toNat] := by
  have h : i.toNat < l.length := by omega
  refine ⟨h, ?_⟩
  unfold rd_T40
  simp [List.getD_eq_getElem?_getD, h]
/-- A right token. -/
def okT (l : List S40) : Bool := decide (l.length ≤ 3) && l.all impl_TokenOk.ok
theorem specTokenOk_is (l : List S40) (k : Nat) (hk : 4 ≤ k) : spec_TokenOk.f k l = some (okT l) := by
  unfold spec_TokenOk.f okT
  by_cases h3 : (l.length : Int) > 3
  · rw [if_pos h3, decide_eq_false (by omega)]; rfl
  · rw [if_neg h3, decide_eq_true (show l.length ≤ 3 by omega), Bool.true_and]
    have key : ∀ (d k : Nat) (i : Int), 0 ≤ i → i ≤ l.length → (l.length : Int) - i = d → d < k → spec_TokenOk.l0 k l i = some ((l.drop i.toNat).all impl_TokenOk.ok) := by
      intro d
      induction d with
      | zero =>
        intro k i h0 h1 hd hk
        obtain ⟨k, rfl⟩ : ∃ m, k = m + 1 := ⟨k - 1, by omega⟩
        simp only [spec_TokenOk.l0]
        rw [if_neg (by omega), List.drop_of_length_le (by omega)]
        rfl
      | succ d ih =>
        intro k i h0 h1 hd hk
        obtain ⟨k, rfl⟩ : ∃ m, k = m + 1 := ⟨k - 1, by omega⟩
        obtain ⟨hi, e⟩ := rd40 l i h0 (by omega)
        simp only [spec_TokenOk.l0]
        rw [if_pos (by omega), if_pos h0, e, List.drop_eq_getElem_cons hi, List.all_cons]
        have hn := ih k (i + 1) (by omega) (by omega) (by omega) (by omega)
        rw [show (i + 1).toNat = i.toNat + 1 by omega] at hn
        rw [Math.w64_id (by omega) (by omega), hn]
        generalize l[i.toNat] = x
        unfold spec_l1In.f impl_TokenOk.ok
        by_cases g1 : 0 ≤ x.f0 <;> by_cases g2 : x.f0 ≤ 29 <;> by_cases g3 : 0 ≤ x.f1 <;> by_cases g4 : x.f1 ≤ 4 <;> simp [g1, g2, g3, g4]
    have := key l.length k 0 (by omega) (by omega) (by omega) (by omega)
    simpa using this
theorem implTokenOk_is (l : List S40) : impl_TokenOk.f l = some (okT l) := rfl

theorem eqEntryS_self (l : List S40) (hn : l.length ≤ 9007199254740992) (k : Nat) (hk : l.length < k) : laws_eqEntryS.f k l l = some true := by
  have key : ∀ (d k : Nat) (i : Int), 0 ≤ i → i ≤ l.length → (l.length : Int) - i = d → d < k → laws_eqEntryS.l0 k l l i = some true := by
    intro d
    induction d with
    | zero =>
      intro k i h0 h1 hd hk
      obtain ⟨k, rfl⟩ : ∃ m, k = m + 1 := ⟨k - 1, by omega⟩
      simp only [laws_eqEntryS.l0]
      rw [if_neg (by omega)]
    | succ d ih =>
      intro k i h0 h1 hd hk
      obtain ⟨k, rfl⟩ : ∃ m, k = m + 1 := ⟨k - 1, by omega⟩
      simp only [laws_eqEntryS.l0]
      rw [if_pos (by omega), if_pos h0, if_pos (by omega)]
      simp only [laws_eqEntry.f, if_true, Option.bind_some]
      rw [Math.w64_id (by omega) (by omega)]
      exact ih k (i + 1) (by omega) (by omega) (by omega) (by omega)
  unfold laws_eqEntryS.f
  rw [if_pos rfl]
  exact key l.length k 0 (by omega) (by omega) (by omega) hk

theorem u64_id (x : Int) (h0 : 0 ≤ x) (h1 : x ≤ 1000) : IntKind.u64.wrap x = x := by
  show x % _ = x
  exact Int.emod_eq_of_lt h0 (Int.lt_of_le_of_lt h1 (by decide))
theorem strOne (c : Int) : strOfNums [c] = ⟨#[UInt8.ofNat c.toNat]⟩ := rfl
theorem l1Dec_is (n : Nat) (hn : n < 100) (k : Nat) : spec_l1Dec.f (k + 4) (n : Int) = some (impl_decimal.dec (n : Int)) := by
  unfold spec_l1Dec.f impl_decimal.dec
  rw [if_neg (by omega), u64_id _ (by omega) (by omega), Int.toNat_natCast]
  simp only [spec_l1Dec.j0, spec_l1Dec.l0, Option.bind_some]
  by_cases h : n < 10
  · rw [if_neg (by omega), if_pos (by rw [strOfNums_size]; show 1 + 0 ≤ 9223372036854775807; decide), if_neg (by omega), u64_id _ (by omega) (by omega), strOne, Lib.decDigits, dif_pos h]
    rw [show ((48 + (n : Int)) % 256).toNat = 48 + n by omega]
    rfl
  · have hd : Int.tdiv (n : Int) 10 = ((n / 10 : Nat) : Int) := by rw [Int.tdiv_eq_ediv_of_nonneg (by omega)]; omega
    have hm : Int.tmod (n : Int) 10 = ((n % 10 : Nat) : Int) := by rw [Int.tmod_eq_emod_of_nonneg (by omega)]; omega
    rw [if_pos (by omega), if_pos (by rw [strOfNums_size]; show 1 + 0 ≤ 9223372036854775807; decide), hd, hm, u64_id ((n / 10 : Nat) : Int) (by omega) (by omega), if_neg (by omega), if_pos (by rw [strOfNums_size, ByteArray.size_append, strOfNums_size]; show 1 + (1 + 0) ≤ 9223372036854775807; decide), if_neg (by omega), u64_id _ (by omega) (by omega), u64_id _ (by omega) (by omega), strOne, strOne, Lib.decDigits, dif_neg h, Lib.decDigits, dif_pos (by omega)]
    rw [show ((48 + ((n % 10 : Nat) : Int)) % 256).toNat = 48 + n % 10 by omega, show ((48 + ((n / 10 : Nat) : Int)) % 256).toNat = 48 + n / 10 by omega]
    rfl
def tl : List S40 → ByteArray → ByteArray
  | [], a => a
  | x :: t, a => tl t ((a ++ ⟨#[32]⟩) ++ impl_tokenText.word x)
theorem tl_data : ∀ (t : List S40) (a : ByteArray), (tl t a).data.toList = a.data.toList ++ Lib.joinTail [32] ((t.map impl_tokenText.word).map (·.data.toList))
  | [], a => by simp [tl, Lib.joinTail]
  | x :: t, a => by
    rw [tl, tl_data t]
    simp [Lib.joinTail, ByteArray.data_append]
theorem text_cons (x : S40) (t : List S40) : impl_tokenText.text (x :: t) = tl t (impl_tokenText.word x) := by
  unfold impl_tokenText.text
  rw [if_neg (by simp), List.map_cons, List.map_cons, Lib.join_cons, ← tl_data]
theorem spec_word (l : List S40) (i k : Nat) (hlt : i < l.length) (ho : impl_tokenText.ok l[i] = true) : rd_T40 l (i : Int) = l[i] ∧ spec_l1Dec.f (k + 4) (l[i]).f0 = some (impl_decimal.dec (l[i]).f0) ∧ spec_l1Dec.f (k + 4) (l[i]).f1 = some (impl_decimal.dec (l[i]).f1) ∧ (impl_decimal.dec (l[i]).f0).size ≤ 2 ∧ (impl_decimal.dec (l[i]).f1).size ≤ 2 := by
  unfold impl_tokenText.ok at ho
  simp only [Bool.and_eq_true, decide_eq_true_eq] at ho
  refine ⟨by unfold rd_T40; simp [List.getD_eq_getElem?_getD, hlt], ?_, ?_, impl_tokenText.dec_size _ (by omega), impl_tokenText.dec_size _ (by omega)⟩
  · obtain ⟨n, hn⟩ : ∃ n : Nat, (l[i]).f0 = n := ⟨(l[i]).f0.toNat, by omega⟩
    rw [hn]; exact l1Dec_is n (by omega) k
  · obtain ⟨n, hn⟩ : ∃ n : Nat, (l[i]).f1 = n := ⟨(l[i]).f1.toNat, by omega⟩
    rw [hn]; exact l1Dec_is n (by omega) k
theorem specText_l (l : List S40) (hl : l.length ≤ 3) (ho : ∀ x ∈ l, impl_tokenText.ok x = true) : ∀ (n i k : Nat) (a : ByteArray), i + n = l.length → 1 ≤ i → n + 5 ≤ k → a.size ≤ 6 * i → spec_TokenText.l0 k l a (i : Int) = some (tl (l.drop i) a)
  | 0, i, k, a, hi, _, hk, _ => by
    obtain ⟨k, rfl⟩ : ∃ m, k = m + 1 := ⟨k - 1, by omega⟩
    rw [spec_TokenText.l0, if_neg (by omega), List.drop_of_length_le (by omega), tl]
  | n + 1, i, k, a, hi, h1, hk, ha => by
    obtain ⟨k, rfl⟩ : ∃ m, k = m + 4 + 1 := ⟨k - 5, by omega⟩
    have hlt : i < l.length := by omega
    obtain ⟨e, e0, e1, z0, z1⟩ := spec_word l i k hlt (ho _ (List.getElem_mem hlt))
    have hc : (⟨#[58]⟩ : ByteArray).size = 1 := rfl
    have hs : (⟨#[32]⟩ : ByteArray).size = 1 := rfl
    rw [spec_TokenText.l0, if_pos (by omega), if_pos (by omega), e, e0, Option.bind_some, if_pos (by omega), e1, Option.bind_some, if_pos (by rw [ByteArray.size_append]; omega), if_neg (by omega), if_pos (by omega), if_pos (by rw [ByteArray.size_append, ByteArray.size_append, ByteArray.size_append]; omega)]
    rw [show wrap64 ((i : Int) + 1) = ((i + 1 : Nat) : Int) by unfold wrap64; omega, specText_l l hl ho n (i + 1) (k + 4) _ (by omega) (by omega) (by omega) (by rw [ByteArray.size_append, ByteArray.size_append, ByteArray.size_append, ByteArray.size_append]; omega), List.drop_eq_getElem_cons hlt, tl]
    rfl
theorem specText_is (l : List S40) (hl : l.length ≤ 3) (ho : ∀ x ∈ l, impl_tokenText.ok x = true) (k : Nat) (hk : 20 ≤ k) : spec_TokenText.l0 k l (⟨#[45]⟩ : ByteArray) 0 = some (impl_tokenText.text l) := by
  obtain ⟨k, rfl⟩ : ∃ m, k = m + 4 + 1 := ⟨k - 5, by omega⟩
  match l, hl, ho with
  | [], _, _ =>
    rw [spec_TokenText.l0, if_neg (by simp)]
    rfl
  | x :: t, hl, ho =>
    obtain ⟨e, e0, e1, z0, z1⟩ := spec_word (x :: t) 0 k (by simp) (ho _ (by simp))
    have hc : (⟨#[58]⟩ : ByteArray).size = 1 := rfl
    simp only [List.getElem_cons_zero] at e e0 e1 z0 z1
    have hw : (impl_tokenText.word x).size ≤ 6 := by unfold impl_tokenText.word; rw [ByteArray.size_append, ByteArray.size_append]; omega
    have key := specText_l (x :: t) hl ho t.length 1 (k + 4) (impl_tokenText.word x) (by rw [List.length_cons]; omega) (Nat.le_refl _) (by rw [List.length_cons] at hl; omega) hw
    rw [show (0 : Int) = ((0 : Nat) : Int) from rfl, spec_TokenText.l0, if_pos (by rw [List.length_cons]; omega), if_pos (by omega), e, e0, Option.bind_some, if_pos (by omega), e1, Option.bind_some, if_pos (by rw [ByteArray.size_append]; omega), if_pos (by rfl), show wrap64 (((0 : Nat) : Int) + 1) = ((1 : Nat) : Int) by unfold wrap64; omega, text_cons]
    exact key

theorem idx_app (w r : List UInt8) (c : UInt8) (hw : c ∉ w) : Lib.indexByte (w ++ c :: r) c = w.length := by
  induction w with
  | nil => simp [Lib.indexByte]
  | cons b w ih =>
    have h1 : ¬ b = c := fun h => hw (by simp [h])
    have h2 := ih (fun h => hw (List.mem_cons_of_mem _ h))
    rw [List.cons_append, Lib.indexByte, h2, List.length_cons, if_neg (by simpa using h1), if_neg (by first | (simp; done) | (simp; omega))]
    omega
theorem idx_no (w : List UInt8) (c : UInt8) (hw : c ∉ w) : Lib.indexByte w c = -1 := by
  induction w with
  | nil => rfl
  | cons b w ih =>
    have h1 : ¬ b = c := fun h => hw (by simp [h])
    have h2 := ih (fun h => hw (List.mem_cons_of_mem _ h))
    rw [Lib.indexByte, h2, if_neg (by simpa using h1)]
    rfl
abbrev mkB (l : List UInt8) : ByteArray := ⟨l.toArray⟩
theorem mkB_size (l : List UInt8) : (mkB l).size = l.length := by show l.toArray.size = _; rw [List.size_toArray]
theorem mkB_list (l : List UInt8) : (mkB l).data.toList = l := rfl
theorem ext_left (w r : List UInt8) : (mkB (w ++ r)).extract 0 w.length = mkB w := by
  rw [strings_Cut.ext_is, mkB_list, List.drop_zero, Nat.sub_zero, List.take_left']
  rfl
theorem ext_right (w r : List UInt8) (c : UInt8) : (mkB (w ++ c :: r)).extract (w.length + 1) (mkB (w ++ c :: r)).size = mkB r := by
  rw [strings_Cut.ext_is, mkB_list, mkB_size]
  have e : (w ++ c :: r).drop (w.length + 1) = r := by
    rw [show w ++ c :: r = (w ++ [c]) ++ r by simp, List.drop_left' (by simp)]
  rw [e, List.take_of_length_le (by simp; omega)]
theorem split_app (k : Nat) (w r : List UInt8) (hw : (32 : UInt8) ∉ w) : rt_splitW (k + 1) (mkB (w ++ 32 :: r)) = mkB w :: rt_splitW k (mkB r) := by
  rw [rt_splitW, mkB_list, idx_app w r 32 hw, if_neg (by omega)]
  have e1 : ((w.length : Int)).toNat = w.length := by omega
  have e2 : ((w.length : Int) + 1).toNat = w.length + 1 := by omega
  rw [e1, e2, ext_left, ext_right]
theorem split_one (k : Nat) (w : List UInt8) (hw : (32 : UInt8) ∉ w) : rt_splitW k (mkB w) = [mkB w] := by
  cases k with
  | zero => rfl
  | succ k => rw [rt_splitW, mkB_list, idx_no w 32 hw, if_pos (by decide)]
/-- The words of a right token's text. -/
def wl (x : S40) : List UInt8 := (impl_tokenText.word x).data.toList
theorem split_tail : ∀ (t : List S40) (x : S40) (k : Nat), t.length ≤ k → (∀ y ∈ x :: t, (32 : UInt8) ∉ wl y) → rt_splitW k (mkB (wl x ++ Lib.joinTail [32] (t.map wl))) = mkB (wl x) :: t.map (fun y => mkB (wl y))
  | [], x, k, _, h => by
    rw [show Lib.joinTail [32] (([] : List S40).map wl) = [] from rfl, List.append_nil]
    exact split_one k _ (h x (by simp))
  | y :: t, x, k, hk, h => by
    obtain ⟨k, rfl⟩ : ∃ m, k = m + 1 := ⟨k - 1, by rw [List.length_cons] at hk; omega⟩
    have e : Lib.joinTail [32] ((y :: t).map wl) = 32 :: (wl y ++ Lib.joinTail [32] (t.map wl)) := by simp [Lib.joinTail]
    rw [e, split_app k _ _ (h x (by simp)), split_tail t y k (by rw [List.length_cons] at hk; omega) (fun z hz => h z (List.mem_cons_of_mem _ hz))]
    rfl
theorem text_list (x : S40) (t : List S40) : impl_tokenText.text (x :: t) = mkB (wl x ++ Lib.joinTail [32] (t.map wl)) := by
  unfold impl_tokenText.text
  rw [if_neg (by simp), List.map_cons, List.map_cons, Lib.join_cons, List.map_map]
  rfl

/-- What is known of each number of a right token, checked one by one. -/
theorem num_all : ∀ n : Fin 30, impl_readDecimal.num (impl_decimal.dec (n.val : Int)) = ((n.val : Int), true) ∧ spec_l1Num.f 40 (impl_decimal.dec (n.val : Int)) = some ((n.val : Int), true) ∧ (58 : UInt8) ∉ (impl_decimal.dec (n.val : Int)).data.toList ∧ (32 : UInt8) ∉ (impl_decimal.dec (n.val : Int)).data.toList := by
  decide +kernel

theorem eq_of_list {a b : ByteArray} (h : a.toList = b.toList) : a = b := by
  rw [ByteArray.toList_eq, ByteArray.toList_eq] at h
  apply ByteArray.ext
  apply Array.ext'
  exact h
theorem bt_list (s : ByteArray) (j : Nat) (h : j < s.data.toList.length) : bt s (j : Int) = ((s.data.toList[j]).toNat : Int) := by
  have hs : (j : Int).toNat < s.size := by rw [Int.toNat_natCast]; exact h
  rw [← bt_at s j hs]
  rfl
/-- A text parted at the first byte c. -/
def cutS (s : ByteArray) (c : UInt8) : ByteArray × ByteArray × Bool :=
  if Lib.indexByte s.data.toList c < 0 then (s, ⟨#[]⟩, false) else (s.extract 0 (Lib.indexByte s.data.toList c).toNat, s.extract (Lib.indexByte s.data.toList c + 1).toNat s.size, true)
theorem l1Cut_loop (s : ByteArray) (c : UInt8) (hs : s.size ≤ 1000) : ∀ (d k j : Nat), j + d = s.size → d < k →
    spec_l1Cut.l0 k s (c.toNat : Int) (j : Int) = some (if Lib.indexByte (s.data.toList.drop j) c < 0 then (s, ⟨#[]⟩, false) else
      (s.extract 0 (j + (Lib.indexByte (s.data.toList.drop j) c).toNat), s.extract (j + (Lib.indexByte (s.data.toList.drop j) c).toNat + 1) s.size, true)) := by
  have hlen : s.data.toList.length = s.size := rfl
  intro d
  induction d with
  | zero =>
    intro k j hj hk
    obtain ⟨k, rfl⟩ : ∃ m, k = m + 1 := ⟨k - 1, by omega⟩
    rw [spec_l1Cut.l0, if_neg (by omega), List.drop_of_length_le (by omega), if_pos (show Lib.indexByte ([] : List UInt8) c < 0 by unfold Lib.indexByte; decide)]
  | succ d ih =>
    intro k j hj hk
    obtain ⟨k, rfl⟩ : ∃ m, k = m + 1 := ⟨k - 1, by omega⟩
    have hlt : j < s.data.toList.length := by omega
    have hn := ih k (j + 1) (by omega) (by omega)
    have hw : wrap64 ((j : Int) + 1) = ((j + 1 : Nat) : Int) := by unfold wrap64; omega
    have hge := Lib.indexByte_ge (s.data.toList.drop (j + 1)) c
    rw [spec_l1Cut.l0, if_pos (by omega), if_pos (by omega), bt_list s j hlt, hw, hn, List.drop_eq_getElem_cons hlt]
    generalize s.data.toList[j] = b
    generalize s.data.toList.drop (j + 1) = l at hge
    by_cases hb : b = c
    · have ev : Lib.indexByte (b :: l) c = 0 := by rw [Lib.indexByte, if_pos (by simp [hb])]
      rw [ev, if_pos (show (b.toNat : Int) = (c.toNat : Int) by rw [hb]), if_pos (show (j : Int) ≤ (s.size : Int) by omega), if_pos (show (0 : Int) ≤ ((j + 1 : Nat) : Int) by omega), if_pos (show ((j + 1 : Nat) : Int) ≤ (s.size : Int) by omega), if_neg (show ¬ (0 : Int) < 0 by decide)]
      rfl
    · rw [if_neg (show ¬ ((b.toNat : Int) = (c.toNat : Int)) from fun h => hb (UInt8.toNat_inj.mp (by omega)))]
      have ev : Lib.indexByte (b :: l) c = if Lib.indexByte l c = -1 then -1 else Lib.indexByte l c + 1 := by
        rw [Lib.indexByte, if_neg (by simpa using hb)]
        by_cases h : Lib.indexByte l c = -1 <;> simp [h]
      rw [ev]
      generalize Lib.indexByte l c = i at hge
      by_cases hi : i = -1
      · rw [if_pos (show i < 0 by omega), if_pos (show (if i = -1 then -1 else i + 1 : Int) < 0 by rw [if_pos hi]; decide)]
      · rw [if_neg (show ¬ i < 0 by omega), show (if i = -1 then -1 else i + 1 : Int) = i + 1 from if_neg hi, if_neg (show ¬ i + 1 < 0 by omega), show j + 1 + i.toNat = j + (i + 1).toNat by omega]
theorem l1Cut_is (s : ByteArray) (c : UInt8) (hs : s.size ≤ 1000) (k : Nat) (hk : s.size < k) : spec_l1Cut.f k s (c.toNat : Int) = some (cutS s c) := by
  unfold spec_l1Cut.f cutS
  have h := l1Cut_loop s c hs s.size k 0 (by omega) hk
  rw [List.drop_zero] at h
  have hge := Lib.indexByte_ge s.data.toList c
  refine Eq.trans h ?_
  by_cases hi : Lib.indexByte s.data.toList c < 0
  · rw [if_pos hi, if_pos hi]
  · rw [if_neg hi, if_neg hi, Nat.zero_add, show (Lib.indexByte s.data.toList c + 1).toNat = (Lib.indexByte s.data.toList c).toNat + 1 by omega]
theorem cut_sizes (s : ByteArray) (c : UInt8) : (cutS s c).1.size ≤ s.size ∧ (cutS s c).2.1.size ≤ s.size ∧ ((cutS s c).2.2 = true → (cutS s c).2.1.size < s.size) := by
  have hlt := rt_idx_lt c s.data.toList
  have hlen : s.data.toList.length = s.size := rfl
  unfold cutS
  by_cases hi : Lib.indexByte s.data.toList c < 0
  · rw [if_pos hi]; exact ⟨Nat.le_refl _, Nat.zero_le _, fun h => absurd h Bool.false_ne_true⟩
  · rw [if_neg hi]
    refine ⟨?_, ?_, fun _ => ?_⟩ <;> simp only [ByteArray.size_extract] <;> omega
theorem l1Split_loop : ∀ (n : Nat) (s : ByteArray) (acc : List ByteArray) (k : Nat), s.size ≤ n → n ≤ 1000 → n + 3 ≤ k → acc.length + n ≤ 1000000 → spec_l1Split.l0 k s acc true = some (acc ++ rt_splitW s.size s) := by
  intro n
  induction n with
  | zero =>
    intro s acc k hs h1 hk ha
    obtain ⟨k, rfl⟩ : ∃ m, k = m + 1 + 1 := ⟨k - 2, by omega⟩
    have hl : s.data.toList = [] := List.eq_nil_of_length_eq_zero (show s.size = 0 by omega)
    have hi : Lib.indexByte s.data.toList 32 < 0 := by rw [hl]; decide
    have hc := l1Cut_is s 32 (by omega) (k + 1) (by omega)
    rw [show ((32 : UInt8).toNat : Int) = 32 from rfl] at hc
    rw [spec_l1Split.l0, if_pos rfl, hc, Option.bind_some, if_pos (by omega), rt_splitW_step]
    unfold cutS
    rw [if_pos hi, if_pos hi, spec_l1Split.l0, if_neg Bool.false_ne_true]
  | succ n ih =>
    intro s acc k hs h1 hk ha
    obtain ⟨k, rfl⟩ : ∃ m, k = m + 1 + 1 := ⟨k - 2, by omega⟩
    have hc := l1Cut_is s 32 (by omega) (k + 1) (by omega)
    have hz := cut_sizes s 32
    rw [show ((32 : UInt8).toNat : Int) = 32 from rfl] at hc
    rw [spec_l1Split.l0, if_pos rfl, hc, Option.bind_some, if_pos (by omega), rt_splitW_step]
    by_cases hi : Lib.indexByte s.data.toList 32 < 0
    · unfold cutS
      rw [if_pos hi, if_pos hi, spec_l1Split.l0, if_neg Bool.false_ne_true]
    · have ec : cutS s 32 = (s.extract 0 (Lib.indexByte s.data.toList 32).toNat, s.extract (Lib.indexByte s.data.toList 32 + 1).toNat s.size, true) := if_neg hi
      rw [ec] at hz ⊢
      have hz3 := hz.2.2 rfl
      rw [if_neg hi, ih _ _ (k + 1) (by simp only at hz3 ⊢; omega) (by omega) (by omega) (by rw [List.length_append, List.length_singleton]; omega), List.append_assoc]
      rfl
theorem l1Split_is (s : ByteArray) (hs : s.size ≤ 1000) (k : Nat) (hk : s.size + 3 ≤ k) : spec_l1Split.f k s = some (rt_splitW s.size s) := by
  unfold spec_l1Split.f
  rw [l1Split_loop s.size s [] k (Nat.le_refl _) hs hk (by simp; omega), List.nil_append]

theorem num_loop (s : ByteArray) (hs : s.size ≤ 1000) : ∀ (d k j : Nat) (acc : Int), j + d = s.size → d < k → ∃ r, spec_l1Num.l0 k s acc (j : Int) = some r := by
  intro d
  induction d with
  | zero =>
    intro k j acc hj hk
    obtain ⟨k, rfl⟩ : ∃ m, k = m + 1 := ⟨k - 1, by omega⟩
    rw [spec_l1Num.l0, if_neg (show ¬ ((j : Int) < (s.size : Int)) by omega)]
    exact ⟨_, rfl⟩
  | succ d ih =>
    intro k j acc hj hk
    obtain ⟨k, rfl⟩ : ∃ m, k = m + 1 := ⟨k - 1, by omega⟩
    rw [spec_l1Num.l0, if_pos (show (j : Int) < (s.size : Int) by omega), if_pos (show (0 : Int) ≤ (j : Int) by omega), show wrap64 ((j : Int) + 1) = ((j + 1 : Nat) : Int) by unfold wrap64; omega]
    by_cases h1 : bt s (j : Int) < 48
    · rw [if_pos h1]; exact ⟨_, rfl⟩
    · rw [if_neg h1]
      by_cases h2 : bt s (j : Int) > 57
      · rw [if_pos h2]; exact ⟨_, rfl⟩
      · rw [if_neg h2]
        exact ih k (j + 1) _ (by omega) (by omega)
theorem num_j1 (s : ByteArray) (hs : s.size ≤ 1000) (k : Nat) (hk : s.size + 2 ≤ k) (b : Bool) : ∃ r, spec_l1Num.j1 k s b = some r := by
  obtain ⟨k, rfl⟩ : ∃ m, k = m + 1 := ⟨k - 1, by omega⟩
  rw [spec_l1Num.j1]
  cases b with
  | true => exact ⟨_, rfl⟩
  | false => exact num_loop s hs s.size k 0 0 (by omega) (by omega)
theorem num_total : ∀ (n : Nat) (s : ByteArray) (k : Nat), s.size ≤ n → n ≤ 1000 → 2 * n + 5 ≤ k → ∃ r, spec_l1Num.f k s = some r := by
  intro n
  induction n with
  | zero =>
    intro s k hs hn hk
    obtain ⟨k, rfl⟩ : ∃ m, k = m + 1 + 1 := ⟨k - 2, by omega⟩
    rw [spec_l1Num.f, if_neg (show ¬ ((s.size : Int) > 1) by omega), spec_l1Num.j0, if_neg Bool.false_ne_true, if_pos (show (s.size : Int) < 1 by omega)]
    exact num_j1 s (by omega) k (by omega) true
  | succ n ih =>
    intro s k hs hn hk
    obtain ⟨k, rfl⟩ : ∃ m, k = m + 1 + 1 := ⟨k - 2, by omega⟩
    have hj : ∀ b, (b = true → 1 ≤ (s.size : Int)) → ∃ r, spec_l1Num.j0 (k + 1) s b = some r := by
      intro b hb
      rw [spec_l1Num.j0]
      cases b with
      | true =>
        have hb := hb rfl
        obtain ⟨r, hr⟩ := ih (s.extract 1 s.size) k (by rw [ByteArray.size_extract]; omega) (by omega) (by omega)
        rw [if_pos rfl, if_pos hb, hr]
        exact ⟨_, rfl⟩
      | false =>
        rw [if_neg Bool.false_ne_true]
        by_cases h1 : (s.size : Int) < 1
        · rw [if_pos h1]; exact num_j1 s (by omega) k (by omega) _
        · rw [if_neg h1]
          by_cases h2 : (s.size : Int) > 16
          · rw [if_pos h2]; exact num_j1 s (by omega) k (by omega) _
          · rw [if_neg h2, if_pos (show (0 : Int) < (s.size : Int) by omega)]
            by_cases h3 : bt s 0 = 48
            · rw [if_pos h3]; exact num_j1 s (by omega) k (by omega) _
            · rw [if_neg h3]; exact num_j1 s (by omega) k (by omega) _
    rw [spec_l1Num.f]
    by_cases h1 : (s.size : Int) > 1
    · rw [if_pos h1, if_pos (show (0 : Int) < (s.size : Int) by omega)]
      by_cases h2 : bt s 0 = 45
      · rw [if_pos h2, if_pos (show (1 : Int) < (s.size : Int) by omega)]
        by_cases h3 : bt s 1 = 48
        · rw [if_pos h3]; exact hj _ (fun h => absurd h Bool.false_ne_true)
        · rw [if_neg h3]; exact hj _ (fun _ => by omega)
      · rw [if_neg h2]; exact hj _ (fun h => absurd h Bool.false_ne_true)
    · rw [if_neg h1]; exact hj _ (fun h => absurd h Bool.false_ne_true)
theorem num_up (s : ByteArray) (k : Nat) (r : Int × Bool) (h : spec_l1Num.f k s = some r) : ∀ m, spec_l1Num.f (k + m) s = some r
  | 0 => h
  | m + 1 => spec_l1Num.mono s (k + m) r (num_up s k r h m)
/-- The number that a text tells, as the reference reads it. -/
def numS (s : ByteArray) : Int × Bool := (spec_l1Num.f 300 s).getD (0, false)
theorem numS_is (s : ByteArray) (hs : s.size ≤ 100) (k : Nat) (hk : 300 ≤ k) : spec_l1Num.f k s = some (numS s) := by
  obtain ⟨r, hr⟩ := num_total 100 s 300 hs (by decide) (by decide)
  have h := num_up s 300 r hr (k - 300)
  rw [show 300 + (k - 300) = k by omega] at h
  rw [h]
  unfold numS
  rw [hr]
  rfl
theorem numS_of (s : ByteArray) (r : Int × Bool) (h : spec_l1Num.f 40 s = some r) : numS s = r := by
  unfold numS
  rw [show (300 : Nat) = 40 + 260 from rfl, num_up s 40 r h 260]
  rfl
/-- The entry that a word tells, as the reference reads it. -/
def gS (w : ByteArray) : S40 := ⟨(numS (cutS w 58).1).1, (numS (cutS w 58).2.1).1⟩
def finS (s : ByteArray) (t : List S40) : List S40 × Bool :=
  if s.toList = ([] : List UInt8) then ([], false) else if (if okT t = true then impl_tokenText.text t else ⟨#[]⟩ : ByteArray).toList = s.toList then (t, true) else ([], false)
theorem specText_total (t : List S40) (k : Nat) (hk : 20 ≤ k) : spec_TokenText.f k t = some (if okT t = true then impl_tokenText.text t else ⟨#[]⟩) := by
  unfold spec_TokenText.f
  rw [specTokenOk_is t k (by omega), Option.bind_some]
  cases hok : okT t with
  | false => rfl
  | true =>
    unfold okT at hok
    simp only [Bool.and_eq_true, decide_eq_true_eq] at hok
    rw [if_pos rfl, if_pos rfl, specText_is t hok.1 (List.all_eq_true.mp hok.2) k hk]
theorem read_loop (s : ByteArray) (ws : List ByteArray) (hw : ∀ w ∈ ws, w.size ≤ 100) (hl : ws.length ≤ 200) : ∀ (d k i : Nat) (acc : List S40), i + d = ws.length → d + 320 ≤ k → acc.length ≤ i →
    spec_ReadToken.l0 k s acc ws (i : Int) = some (finS s (acc ++ (ws.drop i).map gS)) := by
  intro d
  induction d with
  | zero =>
    intro k i acc hi hk ha
    obtain ⟨k, rfl⟩ : ∃ m, k = m + 1 := ⟨k - 1, by omega⟩
    rw [spec_ReadToken.l0, if_neg (show ¬ ((i : Int) < (ws.length : Int)) by omega), List.drop_of_length_le (by omega), List.map_nil, List.append_nil, specText_total acc k (by omega), Option.bind_some]
    unfold finS
    by_cases h : s.toList = ([] : List UInt8)
    · rw [if_pos h, if_pos h]
    · rw [if_neg h, if_neg h]
      by_cases h2 : (if okT acc = true then impl_tokenText.text acc else ⟨#[]⟩ : ByteArray).toList = s.toList
      · rw [if_pos h2, if_pos h2]
      · rw [if_neg h2, if_neg h2]
  | succ d ih =>
    intro k i acc hi hk ha
    obtain ⟨k, rfl⟩ : ∃ m, k = m + 1 := ⟨k - 1, by omega⟩
    have hlt : i < ws.length := by omega
    have e : rdOf ByteArray.empty ws (i : Int) = ws[i] := by unfold rdOf; simp [List.getD_eq_getElem?_getD, hlt]
    have hz := hw ws[i] (List.getElem_mem hlt)
    have hc := l1Cut_is ws[i] 58 (by omega) k (by omega)
    have hs := cut_sizes ws[i] 58
    rw [show ((58 : UInt8).toNat : Int) = 58 from rfl] at hc
    rw [spec_ReadToken.l0, if_pos (show (i : Int) < (ws.length : Int) by omega), if_pos (show (0 : Int) ≤ (i : Int) by omega), e, hc, Option.bind_some, numS_is _ (by omega) k (by omega), Option.bind_some, numS_is _ (by omega) k (by omega), Option.bind_some, if_pos (show acc.length < 8796093022208 by omega),
      show wrap64 ((i : Int) + 1) = ((i + 1 : Nat) : Int) by unfold wrap64; omega, ih k (i + 1) _ (by omega) (by omega) (by rw [List.length_append, List.length_singleton]; omega), List.drop_eq_getElem_cons hlt, List.map_cons, List.append_assoc]
    rfl
theorem split_sizes : ∀ (k : Nat) (s : ByteArray), s.size ≤ k → (rt_splitW k s).length ≤ k + 1 ∧ ∀ w ∈ rt_splitW k s, w.size ≤ s.size
  | 0, s, _ => by
    rw [rt_splitW]
    exact ⟨by simp, fun w hw => by rw [List.mem_singleton.mp hw]; exact Nat.le_refl _⟩
  | k + 1, s, hk => by
    rw [rt_splitW]
    by_cases hi : Lib.indexByte s.data.toList 32 < 0
    · rw [if_pos hi]
      exact ⟨by simp, fun w hw => by rw [List.mem_singleton.mp hw]; exact Nat.le_refl _⟩
    · rw [if_neg hi]
      obtain ⟨h1, h2⟩ := split_sizes k (s.extract (Lib.indexByte s.data.toList 32 + 1).toNat s.size) (by rw [ByteArray.size_extract]; omega)
      refine ⟨by rw [List.length_cons]; omega, fun w hw => ?_⟩
      rcases List.mem_cons.mp hw with rfl | hw
      · rw [ByteArray.size_extract]; omega
      · have := h2 w hw
        rw [ByteArray.size_extract] at this
        omega
theorem specRead_is (s : ByteArray) (hs : s.size ≤ 100) (h : s.toList ≠ ([45] : List UInt8)) (k : Nat) (hk : 600 ≤ k) : spec_ReadToken.f k s = some (finS s ((rt_splitW s.size s).map gS)) := by
  obtain ⟨h1, h2⟩ := split_sizes s.size s (Nat.le_refl _)
  have hl := read_loop s (rt_splitW s.size s) (fun w hw => by have := h2 w hw; omega) (by omega) (rt_splitW s.size s).length k 0 [] (by omega) (by omega) (by simp)
  rw [List.drop_zero, List.nil_append] at hl
  unfold spec_ReadToken.f
  rw [if_neg (show ¬ ((s.size : Int) > 100) by omega), Option.bind_some, if_neg h, l1Split_is s (by omega) k (by omega), Option.bind_some]
  exact hl

theorem mkB_eta (b : ByteArray) : mkB b.data.toList = b := rfl
theorem ok_num (n : Int) (h0 : 0 ≤ n) (h1 : n ≤ 29) : impl_readDecimal.num (impl_decimal.dec n) = (n, true) ∧ spec_l1Num.f 40 (impl_decimal.dec n) = some (n, true) ∧ (58 : UInt8) ∉ (impl_decimal.dec n).data.toList ∧ (32 : UInt8) ∉ (impl_decimal.dec n).data.toList := by
  have h := num_all ⟨n.toNat, by omega⟩
  have e : ((⟨n.toNat, by omega⟩ : Fin 30).val : Int) = n := by show (n.toNat : Int) = n; omega
  rw [e] at h
  exact h
theorem wl_is (x : S40) : wl x = (impl_decimal.dec x.f0).data.toList ++ 58 :: (impl_decimal.dec x.f1).data.toList := by
  unfold wl impl_tokenText.word
  simp [ByteArray.data_append]
theorem word_facts (x : S40) (hx : impl_tokenText.ok x = true) : (32 : UInt8) ∉ wl x ∧ (∀ out : List S40, out.length ≠ 3 → impl_ReadToken.step (some out) (mkB (wl x)) = some (out ++ [x])) ∧ gS (mkB (wl x)) = x ∧ (wl x).length ≤ 5 := by
  unfold impl_tokenText.ok at hx
  simp only [Bool.and_eq_true, decide_eq_true_eq] at hx
  obtain ⟨⟨a0, a1⟩, b0, b1⟩ := hx
  obtain ⟨n1, n2, n3, n4⟩ := ok_num x.f0 a0 a1
  obtain ⟨m1, m2, m3, m4⟩ := ok_num x.f1 b0 (by omega)
  have hi := idx_app (impl_decimal.dec x.f0).data.toList (impl_decimal.dec x.f1).data.toList 58 n3
  refine ⟨?_, fun out ho => ?_, ?_, ?_⟩
  · rw [wl_is]
    intro h
    rcases List.mem_append.mp h with h | h
    · exact n4 h
    · rcases List.mem_cons.mp h with h | h
      · exact absurd h (by decide)
      · exact m4 h
  · have hc : Lib.cut (mkB (wl x)).data.toList [58] = ((impl_decimal.dec x.f0).data.toList, (impl_decimal.dec x.f1).data.toList, true) := by
      rw [mkB_list, wl_is]
      unfold Lib.cut
      rw [Lib.index_one, hi, if_pos (by omega), Int.toNat_natCast, List.take_left' rfl, List.length_singleton]
      rw [show (impl_decimal.dec x.f0).data.toList ++ 58 :: (impl_decimal.dec x.f1).data.toList = ((impl_decimal.dec x.f0).data.toList ++ [58]) ++ (impl_decimal.dec x.f1).data.toList by simp, List.drop_left' (by simp)]
    unfold impl_ReadToken.step
    rw [Option.bind_some, hc]
    show (if (impl_readDecimal.num (mkB (impl_decimal.dec x.f0).data.toList)).2 = true ∧ (impl_readDecimal.num (mkB (impl_decimal.dec x.f1).data.toList)).2 = true ∧ out.length ≠ 3 then some (out ++ [(⟨(impl_readDecimal.num (mkB (impl_decimal.dec x.f0).data.toList)).1, (impl_readDecimal.num (mkB (impl_decimal.dec x.f1).data.toList)).1⟩ : S40)]) else none) = _
    rw [mkB_eta, mkB_eta, n1, m1, if_pos ⟨rfl, rfl, ho⟩]
  · have hc : cutS (mkB (wl x)) 58 = (impl_decimal.dec x.f0, impl_decimal.dec x.f1, true) := by
      unfold cutS
      rw [mkB_list, wl_is, hi, if_neg (by omega), show ((((impl_decimal.dec x.f0).data.toList.length : Nat) : Int)).toNat = (impl_decimal.dec x.f0).data.toList.length by omega, show ((((impl_decimal.dec x.f0).data.toList.length : Nat) : Int) + 1).toNat = (impl_decimal.dec x.f0).data.toList.length + 1 by omega, ext_left, ext_right, mkB_eta, mkB_eta]
    unfold gS
    rw [hc]
    show (⟨(numS (impl_decimal.dec x.f0)).1, (numS (impl_decimal.dec x.f1)).1⟩ : S40) = x
    rw [numS_of _ _ n2, numS_of _ _ m2]
  · rw [wl_is, List.length_append, List.length_cons]
    have z0 := impl_tokenText.dec_size x.f0 (by omega)
    have z1 := impl_tokenText.dec_size x.f1 (by omega)
    have e0 : (impl_decimal.dec x.f0).data.toList.length = (impl_decimal.dec x.f0).size := rfl
    have e1 : (impl_decimal.dec x.f1).data.toList.length = (impl_decimal.dec x.f1).size := rfl
    omega
theorem okT_of (t : List S40) (h : okT t = true) : t.length ≤ 3 ∧ ∀ x ∈ t, impl_tokenText.ok x = true := by
  unfold okT at h
  simp only [Bool.and_eq_true, decide_eq_true_eq] at h
  exact ⟨h.1, List.all_eq_true.mp h.2⟩
theorem tail_len (t : List S40) (h : ∀ x ∈ t, impl_tokenText.ok x = true) : (Lib.joinTail [32] (t.map wl)).length ≤ 6 * t.length ∧ t.length ≤ (Lib.joinTail [32] (t.map wl)).length := by
  induction t with
  | nil => simp [Lib.joinTail]
  | cons y t ih =>
    have h1 := (word_facts y (h y (by simp))).2.2.2
    have h2 := ih (fun x hx => h x (List.mem_cons_of_mem _ hx))
    have e : Lib.joinTail [32] ((y :: t).map wl) = 32 :: (wl y ++ Lib.joinTail [32] (t.map wl)) := by simp [Lib.joinTail]
    rw [e, List.length_cons, List.length_append, List.length_cons]
    omega
theorem text_size (t : List S40) (h : okT t = true) : (impl_tokenText.text t).size ≤ 30 := by
  obtain ⟨h3, ho⟩ := okT_of t h
  cases t with
  | nil => decide
  | cons x t =>
    have h1 := (word_facts x (ho x (by simp))).2.2.2
    have h2 := (tail_len t (fun y hy => ho y (List.mem_cons_of_mem _ hy))).1
    rw [text_list, mkB_size, List.length_append]
    rw [List.length_cons] at h3
    omega
theorem fold_words : ∀ (t out : List S40), (∀ x ∈ t, impl_tokenText.ok x = true) → out.length + t.length ≤ 3 → (t.map (fun y => mkB (wl y))).foldl impl_ReadToken.step (some out) = some (out ++ t)
  | [], out, _, _ => by simp
  | x :: t, out, h, hl => by
    rw [List.length_cons] at hl
    rw [List.map_cons, List.foldl_cons, (word_facts x (h x (by simp))).2.1 out (by omega), fold_words t (out ++ [x]) (fun y hy => h y (List.mem_cons_of_mem _ hy)) (by rw [List.length_append, List.length_singleton]; omega), List.append_assoc]
    rfl
/-- The words of a right token's text, not the empty token's, tell the token: to the program, and to the reference. -/
theorem text_back (t : List S40) (h : okT t = true) (hne : t ≠ []) : impl_ReadToken.read (rt_splitW (impl_tokenText.text t).size (impl_tokenText.text t)) = some t ∧ (rt_splitW (impl_tokenText.text t).size (impl_tokenText.text t)).map gS = t := by
  obtain ⟨h3, ho⟩ := okT_of t h
  cases t with
  | nil => exact absurd rfl hne
  | cons x t =>
    have hs : rt_splitW (impl_tokenText.text (x :: t)).size (impl_tokenText.text (x :: t)) = mkB (wl x) :: t.map (fun y => mkB (wl y)) := by
      rw [text_list, mkB_size]
      refine split_tail t x _ ?_ (fun y hy => (word_facts y (ho y hy)).1)
      have := (tail_len t (fun y hy => ho y (List.mem_cons_of_mem _ hy))).2
      rw [List.length_append]
      omega
    rw [hs]
    refine ⟨?_, ?_⟩
    · have := fold_words (x :: t) [] ho (by simpa using h3)
      rw [List.nil_append] at this
      exact this
    · show gS (mkB (wl x)) :: (t.map (fun y => mkB (wl y))).map gS = x :: t
      rw [(word_facts x (ho x (by simp))).2.2.1, List.map_map]
      congr 1
      have : ∀ y ∈ t, (gS ∘ fun y => mkB (wl y)) y = y := fun y hy => (word_facts y (ho y (List.mem_cons_of_mem _ hy))).2.2.1
      rw [List.map_congr_left this, List.map_id']
theorem text_some (t : List S40) (h : okT t = true) : impl_tokenText.f t = some (impl_tokenText.text t) := by
  obtain ⟨h3, ho⟩ := okT_of t h
  unfold impl_tokenText.f
  rw [if_pos ⟨h3, List.all_eq_true.mpr ho⟩]
/-- What both read of a text: a right token whose text it is, or nothing. -/
theorem reads_same (s : ByteArray) (hs : s.size ≤ 1048576) (k : Nat) (hk : 600 ≤ k) :
    (∃ t, okT t = true ∧ impl_tokenText.text t = s ∧ spec_ReadToken.f k s = some (t, true) ∧ impl_ReadToken.f s = some (t, true)) ∨
    ((∀ t, okT t = true → impl_tokenText.text t ≠ s) ∧ spec_ReadToken.f k s = some ([], false) ∧ impl_ReadToken.f s = some ([], false)) := by
  have e0 : (⟨#[45]⟩ : ByteArray).toList = [45] := by rw [ByteArray.toList_eq]
  have hnil : impl_tokenText.text [] = ⟨#[45]⟩ := rfl
  by_cases hd : s.toList = ([45] : List UInt8)
  · have es : s = ⟨#[45]⟩ := eq_of_list (hd.trans e0.symm)
    refine .inl ⟨[], rfl, hnil.trans es.symm, ?_, ?_⟩
    · unfold spec_ReadToken.f
      rw [if_neg (show ¬ ((s.size : Int) > 100) by rw [es]; decide), Option.bind_some, if_pos hd, if_neg (show ¬ s.toList = ([] : List UInt8) by rw [hd]; simp), specText_total [] k (by omega), Option.bind_some, if_pos (show (if okT [] = true then impl_tokenText.text [] else ⟨#[]⟩ : ByteArray).toList = s.toList by rw [if_pos (show okT [] = true from rfl), hnil, es])]
    · unfold impl_ReadToken.f
      rw [if_pos (by omega), if_pos hd]
  · have him : impl_ReadToken.f s = some (match impl_ReadToken.read (rt_splitW s.size s) with
        | none => ([], false)
        | some out => if impl_TokenOk.f out = some true ∧ (impl_tokenText.f out).map (·.toList) = some s.toList then (out, true) else ([], false)) := by
      unfold impl_ReadToken.f
      rw [if_pos (by omega), if_neg hd]
      rfl
    by_cases hex : ∃ t, okT t = true ∧ impl_tokenText.text t = s
    · obtain ⟨t, ht, rfl⟩ := hex
      have hne : t ≠ [] := by
        rintro rfl
        rw [hnil, e0] at hd
        exact hd rfl
      obtain ⟨r1, r2⟩ := text_back t ht hne
      have hsz := text_size t ht
      have hne2 : (impl_tokenText.text t).toList ≠ ([] : List UInt8) := by
        obtain ⟨x, t', rfl⟩ := List.exists_cons_of_ne_nil hne
        rw [text_list, ByteArray.toList_eq, mkB_list, wl_is]
        simp
      refine .inl ⟨t, ht, rfl, ?_, ?_⟩
      · rw [specRead_is _ (by omega) hd k hk, r2]
        unfold finS
        rw [if_neg hne2, if_pos (by rw [if_pos ht])]
      · rw [him, r1]
        show some (if impl_TokenOk.f t = some true ∧ (impl_tokenText.f t).map (·.toList) = some (impl_tokenText.text t).toList then (t, true) else ([], false)) = _
        rw [if_pos ⟨by rw [implTokenOk_is, ht], by rw [text_some t ht]; rfl⟩]
    · have hno : ∀ t, okT t = true → impl_tokenText.text t ≠ s := fun t h1 h2 => hex ⟨t, h1, h2⟩
      refine .inr ⟨hno, ?_, ?_⟩
      · by_cases h100 : s.size ≤ 100
        · rw [specRead_is s h100 hd k hk]
          unfold finS
          by_cases hz : s.toList = ([] : List UInt8)
          · rw [if_pos hz]
          · rw [if_neg hz]
            generalize (rt_splitW s.size s).map gS = t
            cases ht : okT t with
            | true =>
              rw [if_pos rfl, if_neg (fun h => hno t ht (eq_of_list h))]
            | false =>
              rw [if_neg Bool.false_ne_true, if_neg]
              intro h
              exact hz (h.symm.trans (by rw [ByteArray.toList_eq]))
        · unfold spec_ReadToken.f
          rw [if_pos (show (s.size : Int) > 100 by omega)]
      · rw [him]
        cases hr : impl_ReadToken.read (rt_splitW s.size s) with
        | none => rfl
        | some out =>
          show some (if impl_TokenOk.f out = some true ∧ (impl_tokenText.f out).map (·.toList) = some s.toList then (out, true) else ([], false)) = _
          rw [if_neg]
          rintro ⟨h1, h2⟩
          rw [implTokenOk_is] at h1
          have h1 := Option.some.inj h1
          rw [text_some out h1] at h2
          exact hno out h1 (eq_of_list (Option.some.inj h2))

def markE (i : Nat) : S40 := ⟨1 + 2 * (i : Int), 2 + 2 * (i : Int)⟩
theorem mark_loop (n : Nat) (hn : n ≤ 1048576) (d : Nat) : ∀ (k : Nat) (i : Nat) (l : List S40), i + d = n → l.length = n → (∀ j (h : j < l.length), j < i → l[j] = markE j) → d < k →
    laws_markEntryS.l0 k l (1 + 2 * (i : Int)) i = some (1 + 2 * (n : Int), (List.range n).map markE) := by
  induction d with
  | zero =>
    intro k i l hi hl hm hk
    obtain ⟨k, rfl⟩ : ∃ m, k = m + 1 := ⟨k - 1, by omega⟩
    simp only [laws_markEntryS.l0]
    rw [if_neg (by omega), show i = n by omega]
    have : l = (List.range n).map markE := by
      apply List.ext_getElem (by simp [hl])
      intro j h1 h2
      rw [hm j h1 (by omega)]
      simp
    rw [this]
  | succ d ih =>
    intro k i l hi hl hm hk
    obtain ⟨k, rfl⟩ : ∃ m, k = m + 1 := ⟨k - 1, by omega⟩
    simp only [laws_markEntryS.l0, Option.bind_some]
    rw [if_pos (by omega), if_pos (by omega), Int.toNat_natCast]
    have e1 : (rd_T40 (l.set i (⟨1 + 2 * (i : Int), (rd_T40 l (i : Int)).f1⟩ : S40)) (i : Int)).f0 = 1 + 2 * (i : Int) := by
      obtain ⟨h, e⟩ := rd40 (l.set i (⟨1 + 2 * (i : Int), (rd_T40 l (i : Int)).f1⟩ : S40)) (i : Int) (by omega) (by rw [List.length_set]; omega)
      rw [e]
      simp
    rw [e1, List.set_set, Math.w64_id (x := 1 + 2 * (i : Int) + 1) (by omega) (by omega), Math.w64_id (x := 1 + 2 * (i : Int) + 1 + 1) (by omega) (by omega), Math.w64_id (x := (i : Int) + 1) (by omega) (by omega)]
    have := ih k (i + 1) (l.set i ⟨1 + 2 * (i : Int), 1 + 2 * (i : Int) + 1⟩) (by omega) (by rw [List.length_set]; exact hl) (fun j h hj => by
      rw [List.getElem_set]
      by_cases e : i = j
      · subst e; rw [if_pos rfl]; unfold markE; rw [show 1 + 2 * (i : Int) + 1 = 2 + 2 * (i : Int) by omega]
      · rw [if_neg e]; exact hm j (by rw [List.length_set] at h; exact h) (by omega)) (by omega)
    rw [show (1 + 2 * ((i + 1 : Nat) : Int)) = 1 + 2 * (i : Int) + 1 + 1 by omega, show ((i + 1 : Nat) : Int) = (i : Int) + 1 by omega] at this
    exact this
theorem mark_is (l : List S40) (hn : l.length ≤ 1048576) (k : Nat) (hk : l.length < k) : laws_markEntryS.f k l 1 = some (1 + 2 * (l.length : Int), (List.range l.length).map markE) := by
  unfold laws_markEntryS.f
  exact mark_loop l.length hn l.length k 0 l (by omega) rfl (fun j _ h => absurd h (by omega)) hk
theorem held_loop (n : Nat) (hn : n ≤ 1048576) (d : Nat) : ∀ (k : Nat) (i : Nat), i + d = n → d < k → laws_heldEntryS.l0 k ((List.range n).map markE) (1 + 2 * (i : Int)) i = some (1 + 2 * (n : Int)) := by
  induction d with
  | zero =>
    intro k i hi hk
    obtain ⟨k, rfl⟩ : ∃ m, k = m + 1 := ⟨k - 1, by omega⟩
    simp only [laws_heldEntryS.l0]
    rw [if_neg (by simp; omega), show i = n by omega]
  | succ d ih =>
    intro k i hi hk
    obtain ⟨k, rfl⟩ : ∃ m, k = m + 1 := ⟨k - 1, by omega⟩
    simp only [laws_heldEntryS.l0]
    obtain ⟨h, e⟩ := rd40 ((List.range n).map markE) (i : Int) (by omega) (by simp; omega)
    have e' : rd_T40 ((List.range n).map markE) (i : Int) = markE i := by rw [e]; simp
    rw [if_pos (by simp; omega), if_pos (by omega), e', Math.w64_id (x := 1 + 2 * (i : Int) + 1) (by omega) (by omega), Math.w64_id (x := 1 + 2 * (i : Int) + 1 + 1) (by omega) (by omega), Math.w64_id (x := (i : Int) + 1) (by omega) (by omega)]
    rw [if_pos (show (markE i).f0 = 1 + 2 * (i : Int) from rfl), if_pos (show (markE i).f1 = 1 + 2 * (i : Int) + 1 by unfold markE; show 2 + 2 * (i : Int) = _; omega)]
    have := ih k (i + 1) (by omega) (by omega)
    rw [show (1 + 2 * ((i + 1 : Nat) : Int)) = 1 + 2 * (i : Int) + 1 + 1 by omega, show ((i + 1 : Nat) : Int) = (i : Int) + 1 by omega] at this
    exact this
theorem held_is (n : Nat) (hn : n ≤ 1048576) (k : Nat) (hk : n < k) : laws_heldEntryS.f k ((List.range n).map markE) 1 = some (1 + 2 * (n : Int)) := by
  unfold laws_heldEntryS.f
  exact held_loop n hn n k 0 (by omega) hk

theorem FnExactReadToken (a0 : ByteArray) (b0 : a0.size ≤ 9223372036854775807) : ∃ k, laws_FnExactReadToken.f k a0 = some true := by
  refine ⟨700, ?_⟩
  unfold laws_FnExactReadToken.f
  by_cases h : (a0.size : Int) > 1048576
  · rw [if_pos h]
  · rw [if_neg h]
    have key : ∃ t b, t.length ≤ 3 ∧ spec_ReadToken.f 700 a0 = some (t, b) ∧ impl_ReadToken.f a0 = some (t, b) := by
      rcases reads_same a0 (by omega) 700 (by decide) with ⟨t, h1, -, h2, h3⟩ | ⟨-, h2, h3⟩
      · exact ⟨t, true, (okT_of t h1).1, h2, h3⟩
      · exact ⟨[], false, by decide, h2, h3⟩
    obtain ⟨t, b, ht, e1, e2⟩ := key
    rw [e1, Option.bind_some, e2, Option.bind_some]
    have hq := eqEntryS_self t (by omega) 700 (by omega)
    have hq' := eqEntryS_self t (by omega) 699 (by omega)
    have hm := mark_is t (by omega) 699 (by omega)
    have hh := held_is t.length (by omega) 699 (by omega)
    have hh' := held_is t.length (by omega) 698 (by omega)
    have hbn : (b != b) = false := by simp
    simp only
    rw [hq, Option.bind_some, if_pos rfl, hbn, show (700 : Nat) = 699 + 1 from rfl, laws_FnExactReadToken.j0, if_neg Bool.false_ne_true, hm, Option.bind_some]
    simp only
    rw [hh, Option.bind_some, if_neg (by omega), if_pos rfl, e2, Option.bind_some]
    simp only
    rw [hq', Option.bind_some, if_pos rfl, hbn, show (699 : Nat) = 698 + 1 from rfl, laws_FnExactReadToken.j1, if_neg Bool.false_ne_true, hh', Option.bind_some, if_neg (by omega), if_pos rfl]

end Go.Proofs.YtojlcngdcodgbaaDoor.PureFnExactReadToken
