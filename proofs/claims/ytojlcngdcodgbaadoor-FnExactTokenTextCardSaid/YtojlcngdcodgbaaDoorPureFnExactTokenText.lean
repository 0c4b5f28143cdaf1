/- The program's TokenText and the reference's return the same for all arguments, and leave them alone: the law's function returns true. Conditions: none. -/
import Derived.Test.YtojlcngdcodgbaaDoorQx0
import Derived.Test.YtojlcngdcodgbaaDoorQx1
import Derived.Test.YtojlcngdcodgbaaDoorQx2
import Derived.Test.YtojlcngdcodgbaaDoorQx3
import Derived.Test.YtojlcngdcodgbaaDoorQx4
import Derived.Test.YtojlcngdcodgbaaDoorQx5
import Derived.Test.YtojlcngdcodgbaaDoorQx6
import Derived.Test.YtojlcngdcodgbaaDoorQx8
import Derived.Test.YtojlcngdcodgbaaDoorQx9
import Derived.Test.YtojlcngdcodgbaaDoorQx10
import Derived.Test.YtojlcngdcodgbaaDoorQx11
import Derived.Test.YtojlcngdcodgbaaDoorQx12
import Derived.Test.YtojlcngdcodgbaaDoorQx13
import Derived.Test.YtojlcngdcodgbaaDoorMath
namespace Go.Proofs.YtojlcngdcodgbaaDoor.PureFnExactTokenText
open Go.RowKit Go.Proofs.YtojlcngdcodgbaaDoor Go.Proofs.YtojlcngdcodgbaaDoor.Q Go.Proofs.YtojlcngdcodgbaaDoorW.PrintWords Go.Proofs.YtojlcngdcodgbaaDoorW.PrintLast
set_option linter.unusedVariables false
set_option linter.unusedSimpArgs false

def cvE (x : S42) : S40 := ⟨x.f0, x.f1⟩
theorem rd40 (l : List S40) (i : Int) (h0 : 0 ≤ i) (h1 : i < l.length) : ∃ h : i.toNat < l.length, rd_T40 l i = l[i.toNat] := by
  have h : i.toNat < l.length := by omega
  refine ⟨h, ?_⟩
  unfold rd_T40
  simp [List.getD_eq_getElem?_getD, h]
theorem rd42 (l : List S42) (i : Int) (h0 : 0 ≤ i) (h1 : i < l.length) : ∃ h : i.toNat < l.length, rd_T42 l i = l[i.toNat] := by
  have h : i.toNat < l.length := by omega
  refine ⟨h, ?_⟩
  unfold rd_T42
  simp [List.getD_eq_getElem?_getD, h]
theorem toEntryS_loop (l : List S42) (hn : l.length ≤ 1048576) (d : Nat) : ∀ (k : Nat) (i : Int), 0 ≤ i → i ≤ l.length → (l.length : Int) - i = d → d < k →
    laws_toEntryS.l0 k l ((l.take i.toNat).map cvE ++ List.replicate d z40) i = some (l.map cvE) := by
  induction d with
  | zero =>
    intro k i h0 h1 hd hk
    obtain ⟨k, rfl⟩ : ∃ m, k = m + 1 := ⟨k - 1, by omega⟩
    simp only [laws_toEntryS.l0]
    rw [if_neg (by omega), List.take_of_length_le (by omega)]
    simp
  | succ d ih =>
    intro k i h0 h1 hd hk
    obtain ⟨k, rfl⟩ : ∃ m, k = m + 1 := ⟨k - 1, by omega⟩
    simp only [laws_toEntryS.l0]
    have hlen : ((l.take i.toNat).map cvE ++ List.replicate (d + 1) z40).length = l.length := by
      rw [List.length_append, List.length_map, List.length_take, List.length_replicate]; omega
    obtain ⟨hi, e⟩ := rd42 l i h0 (by omega)
    rw [if_pos (by omega), if_pos h0, e]
    simp only [laws_toEntry.f, Option.bind_some]
    rw [if_pos (by rw [hlen]; omega), Math.w64_id (by omega) (by omega)]
    have e : ((l.take i.toNat).map cvE ++ List.replicate (d + 1) z40).set i.toNat (⟨l[i.toNat].f0, l[i.toNat].f1⟩ : S40) = (l.take (i + 1).toNat).map cvE ++ List.replicate d z40 := by
      rw [show (i + 1).toNat = i.toNat + 1 by omega, List.take_succ_eq_append_getElem hi, List.set_append, if_neg (by rw [List.length_map, List.length_take]; omega), List.length_map, List.length_take, Nat.min_eq_left (by omega), Nat.sub_self]
      simp only [List.replicate_succ, List.set_cons_zero, List.map_append, List.map_cons, List.map_nil]
      rw [List.append_assoc]
      rfl
    rw [e]
    exact ih k (i + 1) (by omega) (by omega) (by omega) (by omega)
theorem toEntryS_is (l : List S42) (hn : l.length ≤ 1048576) (k : Nat) (hk : l.length < k) : laws_toEntryS.f k l = some (l.map cvE) := by
  unfold laws_toEntryS.f
  rw [if_pos (by omega), if_pos (by omega)]
  have := toEntryS_loop l hn l.length k 0 (by omega) (by omega) (by omega) hk
  simpa using this
theorem eqEntryS_self (l : List S40) (hn : l.length ≤ 9007199254740992) (k : Nat) (hk : l.length < k) : laws_eqEntryS.f k l l = some true := by
  have key : ∀ (d k : Nat) (i : Int), 0 ≤ i → i ≤ l.length → (l.length : Int) - i = d → d < k → laws_eqEntryS.l0 k l l i = some true := by
    intro d
    induction d with
    | zero =>
      intro k i h0 h1 hd hk
      obtain ⟨k, rfl⟩ : ∃ m, k = m + 1 := ⟨k - 1, by omega⟩
      simp only [laws_eqEntryS.l0]
      rw [if_neg (by omega)]
    | succ d ih =>
      intro k i h0 h1 hd hk
      obtain ⟨k, rfl⟩ : ∃ m, k = m + 1 := ⟨k - 1, by omega⟩
      simp only [laws_eqEntryS.l0]
      rw [if_pos (by omega), if_pos h0, if_pos (by omega)]
      simp only [laws_eqEntry.f, if_true, Option.bind_some]
      rw [Math.w64_id (by omega) (by omega)]
      exact ih k (i + 1) (by omega) (by omega) (by omega) (by omega)
  unfold laws_eqEntryS.f
  rw [if_pos rfl]
  exact key l.length k 0 (by omega) (by omega) (by omega) hk
/-- A right token. -/
def okT (l : List S40) : Bool := decide (l.length ≤ 3) && l.all impl_TokenOk.ok
theorem specTokenOk_is (l : List S40) (k : Nat) (hk : 4 ≤ k) : spec_TokenOk.f k l = some (okT l) := by
  unfold spec_TokenOk.f okT
  by_cases h3 : (l.length : Int) > 3
  · rw [if_pos h3, decide_eq_false (by omega)]; rfl
  · rw [if_neg h3, decide_eq_true (show l.length ≤ 3 by omega), Bool.true_and]
    have key : ∀ (d k : Nat) (i : Int), 0 ≤ i → i ≤ l.length → (l.length : Int) - i = d → d < k → spec_TokenOk.l0 k l i = some ((l.drop i.toNat).all impl_TokenOk.ok) := by
      intro d
      induction d with
      | zero =>
        intro k i h0 h1 hd hk
        obtain ⟨k, rfl⟩ : ∃ m, k = m + 1 := ⟨k - 1, by omega⟩
        simp only [spec_TokenOk.l0]
        rw [if_neg (by omega), List.drop_of_length_le (by omega)]
        rfl
      | succ d ih =>
        intro k i h0 h1 hd hk
        obtain ⟨k, rfl⟩ : ∃ m, k = m + 1 := ⟨k - 1, by omega⟩
        obtain ⟨hi, e⟩ := rd40 l i h0 (by omega)
        simp only [spec_TokenOk.l0]
        rw [if_pos (by omega), if_pos h0, e, List.drop_eq_getElem_cons hi, List.all_cons]
        have hn := ih k (i + 1) (by omega) (by omega) (by omega) (by omega)
        rw [show (i + 1).toNat = i.toNat + 1 by omega] at hn
        rw [Math.w64_id (by omega) (by omega), hn]
        generalize l[i.toNat] = x
        unfold spec_l1In.f impl_TokenOk.ok
        by_cases g1 : 0 ≤ x.f0 <;> by_cases g2 : x.f0 ≤ 29 <;> by_cases g3 : 0 ≤ x.f1 <;> by_cases g4 : x.f1 ≤ 4 <;> simp [g1, g2, g3, g4]
    have := key l.length k 0 (by omega) (by omega) (by omega) (by omega)
    simpa using this
theorem implTokenOk_is (l : List S40) : impl_TokenOk.f l = some (okT l) := rfl
theorem szEntryS_is (l : List S42) (hl : l.length ≤ 9223372036854775807) (a : Int) (h0 : 0 ≤ a) (h1 : a ≤ 1048576) : laws_szEntryS.f l a = some (if a < l.length then -1 else a - l.length) := by
  unfold laws_szEntryS.f
  rw [Math.w64_id (x := a - (l.length : Int)) (by omega) (by omega)]
  by_cases h : a < l.length
  · rw [if_pos h, if_pos (by omega)]
  · rw [if_neg h, if_neg (by omega)]

theorem u64_id (x : Int) (h0 : 0 ≤ x) (h1 : x ≤ 1000) : IntKind.u64.wrap x = x := by
  show x % _ = x
  exact Int.emod_eq_of_lt h0 (Int.lt_of_le_of_lt h1 (by decide))
theorem strOne (c : Int) : strOfNums [c] = ⟨#[UInt8.ofNat c.toNat]⟩ := rfl
theorem l1Dec_is (n : Nat) (hn : n < 100) (k : Nat) : spec_l1Dec.f (k + 4) (n : Int) = some (impl_decimal.dec (n : Int)) := by
  unfold spec_l1Dec.f impl_decimal.dec
  rw [if_neg (by omega), u64_id _ (by omega) (by omega), Int.toNat_natCast]
  simp only [spec_l1Dec.j0, spec_l1Dec.l0, Option.bind_some]
  by_cases h : n < 10
  · rw [if_neg (by omega), if_pos (by rw [strOfNums_size]; show 1 + 0 ≤ 9223372036854775807; decide), if_neg (by omega), u64_id _ (by omega) (by omega), strOne, Lib.decDigits, dif_pos h]
    rw [show ((48 + (n : Int)) % 256).toNat = 48 + n by omega]
    rfl
  · have hd : Int.tdiv (n : Int) 10 = ((n / 10 : Nat) : Int) := by rw [Int.tdiv_eq_ediv_of_nonneg (by omega)]; omega
    have hm : Int.tmod (n : Int) 10 = ((n % 10 : Nat) : Int) := by rw [Int.tmod_eq_emod_of_nonneg (by omega)]; omega
    rw [if_pos (by omega), if_pos (by rw [strOfNums_size]; show 1 + 0 ≤ 9223372036854775807; decide), hd, hm, u64_id ((n / 10 : Nat) : Int) (by omega) (by omega), if_neg (by omega), if_pos (by rw [strOfNums_size, ByteArray.size_append, strOfNums_size]; show 1 + (1 + 0) ≤ 9223372036854775807; decide), if_neg (by omega), u64_id _ (by omega) (by omega), u64_id _ (by omega) (by omega), strOne, strOne, Lib.decDigits, dif_neg h, Lib.decDigits, dif_pos (by omega)]
    rw [show ((48 + ((n % 10 : Nat) : Int)) % 256).toNat = 48 + n % 10 by omega, show ((48 + ((n / 10 : Nat) : Int)) % 256).toNat = 48 + n / 10 by omega]
    rfl
def tl : List S40 → ByteArray → ByteArray
  | [], a => a
  | x :: t, a => tl t ((a ++ ⟨#[32]⟩) ++ impl_tokenText.word x)
theorem tl_data : ∀ (t : List S40) (a : ByteArray), (tl t a).data.toList = a.data.toList ++ Lib.joinTail [32] ((t.map impl_tokenText.word).map (·.data.toList))
  | [], a => by simp [tl, Lib.joinTail]
  | x :: t, a => by
    rw [tl, tl_data t]
    simp [Lib.joinTail, ByteArray.data_append]
theorem text_cons (x : S40) (t : List S40) : impl_tokenText.text (x :: t) = tl t (impl_tokenText.word x) := by
  unfold impl_tokenText.text
  rw [if_neg (by simp), List.map_cons, List.map_cons, Lib.join_cons, ← tl_data]
theorem spec_word (l : List S40) (i k : Nat) (hlt : i < l.length) (ho : impl_tokenText.ok l[i] = true) : rd_T40 l (i : Int) = l[i] ∧ spec_l1Dec.f (k + 4) (l[i]).f0 = some (impl_decimal.dec (l[i]).f0) ∧ spec_l1Dec.f (k + 4) (l[i]).f1 = some (impl_decimal.dec (l[i]).f1) ∧ (impl_decimal.dec (l[i]).f0).size ≤ 2 ∧ (impl_decimal.dec (l[i]).f1).size ≤ 2 := by
  unfold impl_tokenText.ok at ho
  simp only [Bool.and_eq_true, decide_eq_true_eq] at ho
  refine ⟨by unfold rd_T40; simp [List.getD_eq_getElem?_getD, hlt], ?_, ?_, impl_tokenText.dec_size _ (by omega), impl_tokenText.dec_size _ (by omega)⟩
  · obtain ⟨n, hn⟩ : ∃ n : Nat, (l[i]).f0 = n := ⟨(l[i]).f0.toNat, by omega⟩
    rw [hn]; exact l1Dec_is n (by omega) k
  · obtain ⟨n, hn⟩ : ∃ n : Nat, (l[i]).f1 = n := ⟨(l[i]).f1.toNat, by omega⟩
    rw [hn]; exact l1Dec_is n (by omega) k
theorem specText_l (l : List S40) (hl : l.length ≤ 3) (ho : ∀ x ∈ l, impl_tokenText.ok x = true) : ∀ (n i k : Nat) (a : ByteArray), i + n = l.length → 1 ≤ i → n + 5 ≤ k → a.size ≤ 6 * i → spec_TokenText.l0 k l a (i : Int) = some (tl (l.drop i) a)
  | 0, i, k, a, hi, _, hk, _ => by
    obtain ⟨k, rfl⟩ : ∃ m, k = m + 1 := ⟨k - 1, by omega⟩
    rw [spec_TokenText.l0, if_neg (by omega), List.drop_of_length_le (by omega), tl]
  | n + 1, i, k, a, hi, h1, hk, ha => by
    obtain ⟨k, rfl⟩ : ∃ m, k = m + 4 + 1 := ⟨k - 5, by omega⟩
    have hlt : i < l.length := by omega
    obtain ⟨e, e0, e1, z0, z1⟩ := spec_word l i k hlt (ho _ (List.getElem_mem hlt))
    have hc : (⟨#[58]⟩ : ByteArray).size = 1 := rfl
    have hs : (⟨#[32]⟩ : ByteArray).size = 1 := rfl
    rw [spec_TokenText.l0, if_pos (by omega), if_pos (by omega), e, e0, Option.bind_some, if_pos (by omega), e1, Option.bind_some, if_pos (by rw [ByteArray.size_append]; omega), if_neg (by omega), if_pos (by omega), if_pos (by rw [ByteArray.size_append, ByteArray.size_append, ByteArray.size_append]; omega)]
    rw [show wrap64 ((i : Int) + 1) = ((i + 1 : Nat) : Int) by unfold wrap64; omega, specText_l l hl ho n (i + 1) (k + 4) _ (by omega) (by omega) (by omega) (by rw [ByteArray.size_append, ByteArray.size_append, ByteArray.size_append, ByteArray.size_append]; omega), List.drop_eq_getElem_cons hlt, tl]
    rfl
theorem specText_is (l : List S40) (hl : l.length ≤ 3) (ho : ∀ x ∈ l, impl_tokenText.ok x = true) (k : Nat) (hk : 20 ≤ k) : spec_TokenText.l0 k l (⟨#[45]⟩ : ByteArray) 0 = some (impl_tokenText.text l) := by
  obtain ⟨k, rfl⟩ : ∃ m, k = m + 4 + 1 := ⟨k - 5, by omega⟩
  match l, hl, ho with
  | [], _, _ =>
    rw [spec_TokenText.l0, if_neg (by simp)]
    rfl
  | x :: t, hl, ho =>
    obtain ⟨e, e0, e1, z0, z1⟩ := spec_word (x :: t) 0 k (by simp) (ho _ (by simp))
    have hc : (⟨#[58]⟩ : ByteArray).size = 1 := rfl
    simp only [List.getElem_cons_zero] at e e0 e1 z0 z1
    have hw : (impl_tokenText.word x).size ≤ 6 := by unfold impl_tokenText.word; rw [ByteArray.size_append, ByteArray.size_append]; omega
    have key := specText_l (x :: t) hl ho t.length 1 (k + 4) (impl_tokenText.word x) (by rw [List.length_cons]; omega) (Nat.le_refl _) (by rw [List.length_cons] at hl; omega) hw
    rw [show (0 : Int) = ((0 : Nat) : Int) from rfl, spec_TokenText.l0, if_pos (by rw [List.length_cons]; omega), if_pos (by omega), e, e0, Option.bind_some, if_pos (by omega), e1, Option.bind_some, if_pos (by rw [ByteArray.size_append]; omega), if_pos (by rfl), show wrap64 (((0 : Nat) : Int) + 1) = ((1 : Nat) : Int) by unfold wrap64; omega, text_cons]
    exact key

theorem FnExactTokenText (l0 : List S42) (b0 : l0.length ≤ 9223372036854775807 ∧ ∀ x ∈ l0, (-9223372036854775808 ≤ x.f0 ∧ x.f0 ≤ 9223372036854775807) ∧ (-9223372036854775808 ≤ x.f1 ∧ x.f1 ≤ 9223372036854775807)) : ∃ k, laws_FnExactTokenText.f k l0 = some true := by
  refine ⟨l0.length + 30, ?_⟩
  unfold laws_FnExactTokenText.f
  rw [szEntryS_is l0 b0.1 _ (by decide) (by decide)]
  simp only [Option.bind_some]
  by_cases h : (1048576 : Int) < l0.length
  · rw [if_pos h, if_pos (by decide)]
  · have hn : l0.length ≤ 1048576 := by omega
    rw [if_neg h, if_neg (by omega), toEntryS_is l0 hn _ (by omega)]
    simp only [Option.bind_some]
    have key : ∃ r, spec_TokenText.f (l0.length + 30) (l0.map cvE) = some r ∧ impl_TokenText.f (l0.map cvE) = some r := by
      generalize l0.map cvE = L
      unfold spec_TokenText.f impl_TokenText.f
      rw [specTokenOk_is _ _ (by omega), implTokenOk_is]
      simp only [Option.bind_some]
      cases hok : okT L with
      | false => exact ⟨_, rfl, rfl⟩
      | true =>
        unfold okT at hok
        simp only [Bool.and_eq_true, decide_eq_true_eq] at hok
        obtain ⟨h3, ha⟩ := hok
        have ha2 : L.all impl_tokenText.ok = true := ha
        refine ⟨impl_tokenText.text L, ?_, ?_⟩
        · rw [if_pos rfl, specText_is L h3 (List.all_eq_true.mp ha2) _ (by omega)]
        · rw [if_pos rfl]
          unfold impl_tokenText.f
          rw [if_pos ⟨h3, ha2⟩]
          rfl
    obtain ⟨r, e1, e2⟩ := key
    rw [e1, e2]
    simp only [Option.bind_some, if_true]
    rw [eqEntryS_self _ (by simp; omega) _ (by simp)]
    rfl

end Go.Proofs.YtojlcngdcodgbaaDoor.PureFnExactTokenText
