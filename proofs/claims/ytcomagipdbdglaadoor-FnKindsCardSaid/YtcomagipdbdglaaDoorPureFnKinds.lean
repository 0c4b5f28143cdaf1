/- An expression that is right is a number or a truth, and what is put behind it keeps the kinds, for every code: the law's function returns true. Conditions: none. -/
import Derived.Test.YtcomagipdbdglaaDoorQx0
import Derived.Test.YtcomagipdbdglaaDoorQx2
import Derived.Test.YtcomagipdbdglaaDoorQx4
import Derived.Test.YtcomagipdbdglaaDoorQx5
import Derived.Test.YtcomagipdbdglaaDoorQx6
import Derived.Test.YtcomagipdbdglaaDoorQx7
import Derived.Test.YtcomagipdbdglaaDoorQx8
import Derived.Test.YtcomagipdbdglaaDoorQx9
import Derived.Test.YtcomagipdbdglaaDoorQx10
import Derived.Test.YtcomagipdbdglaaDoorQx11
import Derived.Test.YtcomagipdbdglaaDoorQx16
import Derived.Test.YtcomagipdbdglaaDoorQx17
import Derived.Test.YtcomagipdbdglaaDoorQx18
import Derived.Test.YtcomagipdbdglaaDoorQx19
import Derived.Test.YtcomagipdbdglaaDoorQx20
import Derived.Test.YtcomagipdbdglaaDoorQx21
import Derived.Test.YtcomagipdbdglaaDoorQx22
import Derived.Test.YtcomagipdbdglaaDoorQx23
import Derived.Test.YtcomagipdbdglaaDoorQx24
import Derived.Test.YtcomagipdbdglaaDoorQx25
import Derived.Test.YtcomagipdbdglaaDoorQx26
import Derived.Test.YtcomagipdbdglaaDoorQx27
import Derived.Test.YtcomagipdbdglaaDoorMath
namespace Go.Proofs.YtcomagipdbdglaaDoor.PureFnKinds
open Go.RowKit Go.Proofs.YtcomagipdbdglaaDoor Go.Proofs.YtcomagipdbdglaaDoor.Q Go.Proofs.YtcomagipdbdglaaDoorW.PrintWords Go.Proofs.YtcomagipdbdglaaDoorW.PrintLast
set_option linter.unusedVariables false
set_option linter.unusedSimpArgs false

theorem rdS (l : List ByteArray) (i : Int) (h0 : 0 ≤ i) (h1 : i < l.length) : ∃ h : i.toNat < l.length, rdOf ByteArray.empty l i = l[i.toNat] := by
  have h : i.toNat < l.length := by omega
  refine ⟨h, ?_⟩
  unfold rdOf
  simp [List.getD_eq_getElem?_getD, h]
theorem rd91 (l : List S91) (i : Int) (h0 : 0 ≤ i) (h1 : i < l.length) : ∃ h : i.toNat < l.length, rd_T91 l i = l[i.toNat] := by
  have h : i.toNat < l.length := by omega
  refine ⟨h, ?_⟩
  unfold rd_T91
  simp [List.getD_eq_getElem?_getD, h]
def FitS (l : List ByteArray) : Prop := l.length ≤ 1048576 ∧ ∀ x ∈ l, x.size ≤ 1048576

open impl_Decl_isRight in
theorem key_l (s : ByteArray) (l : List ByteArray) (hl : l.length ≤ 2097152) : ∀ (n i k : Nat), i + n = l.length → n < k → spec_l3Key.l0 k s l i = some (has (l.drop i) s)
  | 0, i, k + 1, hi, _ => by
    unfold spec_l3Key.l0
    rw [if_neg (by omega), List.drop_eq_nil_of_le (by omega)]
    rfl
  | n + 1, i, k + 1, hi, hk => by
    have hlt : i < l.length := by omega
    have hd : rdOf ByteArray.empty l (i : Int) = l[i] := by unfold rdOf; simp [List.getD_eq_getElem?_getD, hlt]
    have hc : l.drop i = l[i] :: l.drop (i + 1) := List.drop_eq_getElem_cons hlt
    unfold spec_l3Key.l0
    rw [if_pos (by omega), if_pos (by omega), hd, w1 i (by omega), hc]
    unfold has
    rw [List.any_cons]
    by_cases he : s = l[i]
    · rw [if_pos ((teq _ _).2 he.symm)]
      simp [he]
    · rw [if_neg (fun h => he ((teq _ _).1 h).symm), key_l s l hl n (i + 1) k (by omega) (by omega)]
      simp [he, has]
open impl_Decl_isRight in
theorem specKey_is (s : ByteArray) (k : Nat) (hk : 16 < k) : spec_l3Key.f k s = some (has impl_isWord.words s) := key_l s impl_isWord.words (by decide) 16 0 k rfl hk
open impl_Decl_isRight in
theorem specName_l (s : ByteArray) (hs : s.size ≤ 1048576) : ∀ n i k, i + n = s.size → n + 20 < k → spec_l3Name.l0 k s i = some (((s.data.toList.drop i).all fun c => decide (97 ≤ c.toNat ∧ c.toNat ≤ 122)) && decide (1 ≤ s.size ∧ s.size ≤ 8) && !(has impl_isWord.words s))
  | 0, i, k + 1, hi, hk => by
    have hz : s.data.toList.length = s.size := rfl
    unfold spec_l3Name.l0 spec_l1In.f
    rw [if_neg (by omega), List.drop_eq_nil_of_le (by omega), specKey_is s k (by omega)]
    by_cases h1 : 1 ≤ s.size
    · rw [if_pos (by omega)]
      by_cases h8 : s.size ≤ 8
      · have h1' : (1 : Int) ≤ (s.size : Int) := by omega
        have h8' : (s.size : Int) ≤ 8 := by omega
        simp [h1, h8, h1', h8']
      · have h8' : ¬ (s.size : Int) ≤ 8 := by omega
        simp [h1, h8, h8']
    · rw [if_neg (by omega)]
      simp [h1]
  | n + 1, i, k + 1, hi, hk => by
    have hz : s.data.toList.length = s.size := rfl
    have hlt : i < s.size := by omega
    have hc : s.data.toList.drop i = (s.data.toList[i]'hlt) :: s.data.toList.drop (i + 1) := List.drop_eq_getElem_cons hlt
    unfold spec_l3Name.l0
    rw [if_pos (by omega), if_pos (by omega), impl_Decl_isRight.byte s i hlt, w1 i (by omega), specName_l s hs n (i + 1) k (by omega) (by omega), hc]
    generalize s.data.toList[i]'hlt = b
    by_cases h1 : 97 ≤ b.toNat
    · rw [if_neg (by omega)]
      by_cases h2 : b.toNat ≤ 122
      · rw [if_neg (by omega)]
        simp [h1, h2]
      · rw [if_pos (by omega)]
        simp [h2]
    · rw [if_pos (by omega)]
      simp [h1]
open impl_Decl_isRight in
theorem specName_is (s : ByteArray) (hs : s.size ≤ 1048576) (k : Nat) (hk : 1048600 < k) : spec_l3Name.f k s = some (nameB s) := specName_l s hs s.size 0 k (by omega) (by omega)
open impl_Decl_isRight in
theorem place_l (l : List ByteArray) (s : ByteArray) (hl : l.length ≤ 4194304) : ∀ n i k, i + n = l.length → n < k → ∃ t, spec_l3Place.l0 k l s i = some t ∧ decide (t ≥ 0) = has (l.drop i) s
  | 0, i, k + 1, hi, _ => by
    refine ⟨-1, ?_, ?_⟩
    · unfold spec_l3Place.l0
      rw [if_neg (by omega)]
    · rw [List.drop_eq_nil_of_le (by omega)]; rfl
  | n + 1, i, k + 1, hi, hk => by
    have hlt : i < l.length := by omega
    have hd : rdOf ByteArray.empty l (i : Int) = l[i] := by unfold rdOf; simp [List.getD_eq_getElem?_getD, hlt]
    have hc : l.drop i = l[i] :: l.drop (i + 1) := List.drop_eq_getElem_cons hlt
    unfold spec_l3Place.l0
    rw [if_pos (by omega), if_pos (by omega), hd, w1 i (by omega)]
    by_cases he : s = l[i]
    · rw [if_pos ((teq _ _).2 he.symm)]
      exact ⟨i, rfl, by rw [hc]; unfold has; rw [List.any_cons]; simp [he]⟩
    · rw [if_neg (fun h => he ((teq _ _).1 h).symm)]
      obtain ⟨t, h1, h2⟩ := place_l l s hl n (i + 1) k (by omega) (by omega)
      exact ⟨t, h1, by rw [h2, hc]; unfold has; rw [List.any_cons]; simp [he]⟩
open impl_Decl_isRight in
theorem specRun_l (L : List ByteArray) (hl : L.length ≤ 4194304) (hs : ∀ s ∈ L, s.size ≤ 1048576) (B : Nat) (hB : 4194400 ≤ B) : ∀ n i k, i + n = L.length → n + B < k → spec_DeclOk.l1 k L i = some (run (L.take i) (L.drop i))
  | 0, i, k + 1, hi, _ => by
    unfold spec_DeclOk.l1
    rw [if_neg (by omega), List.drop_eq_nil_of_le (by omega)]
    rfl
  | n + 1, i, k + 1, hi, hk => by
    have hlt : i < L.length := by omega
    have hd : rdOf ByteArray.empty L (i : Int) = L[i] := by unfold rdOf; simp [List.getD_eq_getElem?_getD, hlt]
    have hc : L.drop i = L[i] :: L.drop (i + 1) := List.drop_eq_getElem_cons hlt
    have hlk : (L.take i).length = i := by simp; omega
    have ht : L.take (i + 1) = L.take i ++ [L[i]] := List.take_succ_eq_append_getElem hlt
    obtain ⟨t, e1, e2⟩ := place_l (L.take i) L[i] (by omega) i 0 k (by omega) (by omega)
    rw [List.drop_zero] at e2
    have ih := specRun_l L hl hs B hB n (i + 1) k (by omega) (by omega)
    unfold spec_DeclOk.l1
    rw [if_pos (by omega), if_pos (by omega), hd, w1 i (by omega), specName_is _ (hs _ (List.getElem_mem hlt)) k (by omega), if_pos (by omega), Int.toNat_natCast, hc]
    unfold run
    rw [← ht]
    have e1' : spec_l3Place.f k (L.take i) L[i] = some t := e1
    rw [e1', Option.bind_some, Option.bind_some, ← e2]
    cases nameB L[i] with
    | false => simp
    | true =>
      by_cases htt : t ≥ 0
      · have h2 : decide (t ≥ 0) = true := decide_eq_true htt
        rw [h2, if_pos rfl, if_pos htt]; rfl
      · have h2 : decide (t ≥ 0) = false := decide_eq_false htt
        rw [h2, if_pos rfl, if_neg htt, ih]; simp
open impl_Decl_isRight in
theorem specArr_l (l0 l1 : List ByteArray) (l2 : List S91) (hl : l2.length ≤ 1048576) (hs : ∀ x ∈ l2, x.f0.size ≤ 1048576) (B : Nat) (hB : 8400000 ≤ B) (M : Nat) (hM : M = 4194304) : ∀ n i k (X : List ByteArray), i + n = l2.length → n + X.length ≤ M → (∀ s ∈ X, s.size ≤ 1048576) → n + B < k → spec_DeclOk.l0 k X i l0 l1 l2 = some ((l2.drop i).all sizeB && run [] (X ++ (l2.drop i).map (·.f0)))
  | 0, i, k + 1, X, hi, hX, hsX, hk => by
    unfold spec_DeclOk.l0
    rw [if_neg (by omega), List.drop_eq_nil_of_le (by omega), show (0 : Int) = ((0 : Nat) : Int) from rfl, specRun_l X (by omega) hsX 4194400 (Nat.le_refl _) X.length 0 k (by omega) (by omega)]
    simp
  | n + 1, i, k + 1, X, hi, hX, hsX, hk => by
    have hlt : i < l2.length := by omega
    have hd : rd_T91 l2 (i : Int) = l2[i] := by unfold rd_T91; simp [List.getD_eq_getElem?_getD, hlt]
    have hc : l2.drop i = l2[i] :: l2.drop (i + 1) := List.drop_eq_getElem_cons hlt
    have ih := specArr_l l0 l1 l2 hl hs B hB M hM n (i + 1) k (X ++ [l2[i].f0]) (by omega) (by simp; omega) (fun s hm => by
      rcases List.mem_append.1 hm with hm | hm
      · exact hsX s hm
      · rw [List.mem_singleton.1 hm]; exact hs _ (List.getElem_mem hlt)) (by omega)
    have hin : spec_l1In.f l2[i].f1 1 16 = some (sizeB l2[i]) := by
      unfold spec_l1In.f sizeB
      by_cases h1 : 1 ≤ l2[i].f1 <;> by_cases h2 : l2[i].f1 ≤ 16 <;> simp [h1, h2]
    unfold spec_DeclOk.l0
    rw [if_pos (by omega), if_pos (by omega), hd, w1 i (by omega), hin, if_pos (by omega), ih, hc, Option.bind_some, List.all_cons, List.map_cons]
    cases sizeB l2[i] with
    | false => rw [if_neg (by decide)]; rfl
    | true => rw [if_pos rfl, Bool.true_and, List.append_assoc]; rfl
open impl_Decl_isRight in
theorem specDeclOk_is (l0 l1 : List ByteArray) (l2 : List S91) (b0 : FitS l0) (b1 : FitS l1) (hl : l2.length ≤ 1048576) (hs : ∀ x ∈ l2, x.f0.size ≤ 1048576) (k : Nat) (hk : 16800000 < k) : spec_DeclOk.f k l0 l1 l2 = some (ok l0 l1 l2) := by
  obtain ⟨k, rfl⟩ : ∃ m, k = m + 1 := ⟨k - 1, by omega⟩
  unfold spec_DeclOk.f ok
  have hj : ∀ b, spec_DeclOk.j0 (k + 1) b l0 l1 l2 = some (!b && (l2.all sizeB && run [] (l0 ++ l1 ++ l2.map (·.f0)))) := by
    intro b
    simp only [spec_DeclOk.j0]
    cases b with
    | true => rfl
    | false =>
      rw [if_neg (by decide), Option.bind_some, if_pos (by have := b0.1; simp; omega), Option.bind_some, if_pos (by have := b0.1; have := b1.1; simp; omega)]
      rw [show (0 : Int) = ((0 : Nat) : Int) from rfl, specArr_l l0 l1 l2 hl hs 8400000 (Nat.le_refl _) 4194304 rfl l2.length 0 k _ (by omega) (by have := b0.1; have := b1.1; simp; omega) (fun s hm => by
        rw [List.nil_append] at hm
        rcases List.mem_append.1 hm with hm | hm
        · exact b0.2 s hm
        · exact b1.2 s hm) (by omega)]
      simp
  rw [hj, hj]
  by_cases h5 : l0.length ≤ 5
  · rw [if_neg (by omega)]
    by_cases h3 : l1.length ≤ 3
    · rw [if_neg (by omega)]
      by_cases h2 : l2.length ≤ 2
      · have h2' : ¬ ((l2.length : Int) > 2) := by omega
        simp only [h5, h3, h2, h2', decide_true, decide_false, Bool.and_true, Bool.not_false, Bool.true_and]
        rw [Bool.and_comm]
      · have h2' : ((l2.length : Int) > 2) := by omega
        simp [h2, h2']
    · rw [if_pos (by omega)]
      simp [h3]
  · rw [if_pos (by omega)]
    simp [h5]
open impl_Decl_isRight in
theorem isRight_is (l0 l1 : List ByteArray) (l2 : List S91) (b0 : FitS l0) (b1 : FitS l1) (hl : l2.length ≤ 1048576) (hs : ∀ x ∈ l2, x.f0.size ≤ 1048576) : impl_Decl_isRight.f l0 l1 l2 = some (ok l0 l1 l2) := by
  unfold impl_Decl_isRight.f
  rw [if_pos]
  refine ⟨by have := b0.1; have := b1.1; omega, fun s hm => ?_⟩
  have : s.size ≤ 1048576 := by
    rcases List.mem_append.1 hm with hm | hm
    · rcases List.mem_append.1 hm with hm | hm
      · exact b0.2 s hm
      · exact b1.2 s hm
    · obtain ⟨x, hx, rfl⟩ := List.mem_map.1 hm
      exact hs x hx
  omega

theorem rd86 (l : List S86) (i : Nat) (h : i < l.length) : rd_T86 l (i : Int) = l[i] := by unfold rd_T86; simp [List.getD_eq_getElem?_getD, h]
open impl_Decl_kindOf in
theorem specTok_is (l0 l1 : List ByteArray) (l2 : List S91) (x : S86) (h0 : l0.length ≤ 1048576) (h1 : l1.length ≤ 1048576) (h2 : l2.length ≤ 1048576) : spec_l3Tok.f l0 l1 l2 x.f0 x.f1 = some (tokB l0 l1 l2 x) := by
  have w (n : Nat) (hn : n ≤ 1048576) : wrap64 ((n : Int) - 1) = (n : Int) - 1 := by unfold wrap64; omega
  have hw : ∀ y a b : Int, spec_l1In.f y a b = some (decide (a ≤ y ∧ y ≤ b)) := by
    intro y a b
    unfold spec_l1In.f
    by_cases h1 : a ≤ y <;> by_cases h2 : y ≤ b <;> simp [h1, h2]
  unfold spec_l3Tok.f tokB
  simp only [Option.bind_some, hw, w _ h0, w _ h1, w _ h2]
  by_cases h1 : x.f0 = 1
  · rw [if_pos h1, if_pos h1]
  rw [if_neg h1, if_neg h1]
  by_cases h2 : x.f0 = 2
  · rw [if_pos h2, if_pos h2]
  rw [if_neg h2, if_neg h2]
  by_cases h3 : x.f0 = 3
  · rw [if_pos h3, if_pos h3]
  rw [if_neg h3, if_neg h3]
  by_cases h6 : x.f0 = 6
  · rw [if_pos h6, if_pos h6]
  rw [if_neg h6, if_neg h6]
  by_cases h4 : 4 ≤ x.f0 ∧ x.f0 ≤ 21
  · rw [decide_eq_true h4, if_pos rfl]
    by_cases h0 : x.f1 = 0 <;> simp [h0]
  · rw [decide_eq_false h4, if_neg (by decide)]
    rfl
open impl_Decl_kindOf in
theorem tok_range (l0 l1 : List ByteArray) (l2 : List S91) (x : S86) (h : tokB l0 l1 l2 x = true) : 1 ≤ x.f0 ∧ x.f0 ≤ 21 := by
  unfold tokB at h
  by_cases h1 : x.f0 = 1
  · omega
  by_cases h2 : x.f0 = 2
  · omega
  by_cases h3 : x.f0 = 3
  · omega
  by_cases h6 : x.f0 = 6
  · omega
  rw [if_neg h1, if_neg h2, if_neg h3, if_neg h6] at h
  simp only [Bool.and_eq_true, decide_eq_true_eq] at h
  omega
theorem takes_some (op : Int) : ∃ n, spec_l3Takes.f op = some n := by
  unfold spec_l3Takes.f
  by_cases h1 : op ≤ 5
  · exact ⟨_, if_pos h1⟩
  by_cases h2 : op ≤ 7
  · exact ⟨1, by rw [if_neg h1, if_pos h2]⟩
  by_cases h3 : op = 19
  · exact ⟨1, by rw [if_neg h1, if_neg h2, if_pos h3]⟩
  · exact ⟨2, by rw [if_neg h1, if_neg h2, if_neg h3]⟩
theorem kinds_j (op : Int) (k : Nat) (b : Bool) : spec_l3Kinds.j0 (k + 1) op b = some (if b = true then (0, 2) else if op ≤ 12 then (1, 1) else if op ≤ 18 then (1, 2) else (2, 2)) := by
  simp only [spec_l3Kinds.j0]
  by_cases h : b = true
  · rw [if_pos h, if_pos h]
  rw [if_neg h, if_neg h]
  by_cases h1 : op ≤ 12
  · rw [if_pos h1, if_pos h1]
  rw [if_neg h1, if_neg h1]
  by_cases h2 : op ≤ 18
  · rw [if_pos h2, if_pos h2]
  · rw [if_neg h2, if_neg h2]
theorem kinds_is (op : Int) (k : Nat) : spec_l3Kinds.f (k + 1) op = some (if op = 3 ∨ op = 4 ∨ op = 5 then (0, 2) else if op ≤ 12 then (1, 1) else if op ≤ 18 then (1, 2) else (2, 2)) := by
  unfold spec_l3Kinds.f
  by_cases h3 : op = 3
  · rw [if_pos h3, kinds_j, if_pos rfl, if_pos (Or.inl h3)]
  rw [if_neg h3]
  by_cases h4 : op = 4
  · rw [if_pos h4, kinds_j, if_pos rfl, if_pos (Or.inr (Or.inl h4))]
  rw [if_neg h4, kinds_j]
  by_cases h5 : op = 5
  · rw [if_pos (beq_iff_eq.mpr h5), if_pos (Or.inr (Or.inr h5))]
  · rw [if_neg (by simpa using h5), if_neg (show ¬ (op = 3 ∨ op = 4 ∨ op = 5) by omega)]
open impl_Decl_kindOf in
/-- What an operation takes and leaves, told twice. -/
theorem op_is (op : Int) (k : Nat) (h1 : 1 ≤ op) (h2 : op ≤ 21) : ∃ kd, spec_l3Takes.f op = some ((want op).length : Int) ∧ spec_l3Kinds.f (k + 1) op = some (kd, leaf op) ∧ want op = List.replicate (want op).length kd := by
  rw [kinds_is]
  obtain h | h | h | h | h | h | h | h | h | h | h | h | h | h | h | h | h | h | h | h | h : op = 1 ∨ op = 2 ∨ op = 3 ∨ op = 4 ∨ op = 5 ∨ op = 6 ∨ op = 7 ∨ op = 8 ∨ op = 9 ∨ op = 10 ∨ op = 11 ∨ op = 12 ∨ op = 13 ∨ op = 14 ∨ op = 15 ∨ op = 16 ∨ op = 17 ∨ op = 18 ∨ op = 19 ∨ op = 20 ∨ op = 21 := by omega
  all_goals
    subst h
    exact ⟨_, rfl, rfl, rfl⟩
open impl_Decl_kindOf in
theorem want_len (op : Int) : (want op).length ≤ 2 := by
  unfold want
  split <;> (try split) <;> (try split) <;> (try split) <;> simp
theorem expr_l1 (L : List S86) (p : List Int) (l0 l1 : List ByteArray) (l2 : List S91) (i n kd lf : Int) (hp : p.length ≤ 40) (hn0 : 0 ≤ n) (hn : n ≤ p.length) (hi : 0 ≤ i) (hi2 : i < 100) : ∀ (d j K : Nat), j + d = p.length →
    spec_ExprOk.l1 (K + d + 1) L p i n kd lf (j : Int) l0 l1 l2 = if p.drop j = List.replicate d kd then spec_ExprOk.l0 K L (p.take (p.length - n.toNat) ++ [lf]) (i + 1) l0 l1 l2 else some 0
  | 0, j, K, hj => by
    unfold spec_ExprOk.l1
    have hw : wrap64 ((p.length : Int) - n) = (p.length : Int) - n := by unfold wrap64; omega
    have hw2 : wrap64 (i + 1) = i + 1 := by unfold wrap64; omega
    rw [if_neg (by omega), hw, if_pos (by omega), if_pos (by omega), Option.bind_some, if_pos (by rw [List.length_take]; omega), hw2, List.drop_of_length_le (by omega), if_pos (show ([] : List Int) = List.replicate 0 kd from rfl), show ((p.length : Int) - n).toNat = p.length - n.toNat by omega]
  | d + 1, j, K, hj => by
    have hlt : j < p.length := by omega
    have e : rd p (j : Int) = p[j] := by simp [rd, List.getD_eq_getElem?_getD, hlt]
    have hw : wrap64 ((j : Int) + 1) = ((j + 1 : Nat) : Int) := by unfold wrap64; omega
    rw [show K + (d + 1) + 1 = (K + d + 1) + 1 by omega]
    rw [spec_ExprOk.l1]
    rw [if_pos (by omega), if_pos (by omega), e, hw, expr_l1 L p l0 l1 l2 i n kd lf hp hn0 hn hi hi2 d (j + 1) K (by omega), List.drop_eq_getElem_cons hlt, List.replicate_succ]
    by_cases h : p[j] = kd
    · rw [if_pos h]
      simp only [List.cons.injEq, h, true_and]
    · rw [if_neg h, if_neg (fun q => h (List.cons.inj q).1)]
open impl_Decl_kindOf in
theorem expr_l0 (L : List S86) (hL : L.length ≤ 40) (l0 l1 : List ByteArray) (l2 : List S91) (h0 : l0.length ≤ 1048576) (h1 : l1.length ≤ 1048576) (h2 : l2.length ≤ 1048576) : ∀ (n i K : Nat) (p : List Int), i + n = L.length → p.length ≤ i → 6 * n + 1 ≤ K →
    spec_ExprOk.l0 K L p (i : Int) l0 l1 l2 = some (if (L.drop i).all (tokB l0 l1 l2) = true then loop (L.drop i) p else 0)
  | 0, i, K, p, hi, hp, hk => by
    obtain ⟨K, rfl⟩ : ∃ m, K = m + 1 := ⟨K - 1, by omega⟩
    unfold spec_ExprOk.l0
    rw [if_neg (by omega), List.drop_of_length_le (by omega), if_pos (show ([] : List S86).all (tokB l0 l1 l2) = true from rfl)]
    unfold loop
    by_cases h : p.length = 1
    · rw [if_pos (show (p.length : Int) = 1 by omega), if_pos (show (0 : Int) < p.length by omega), if_pos h]
      rfl
    · rw [if_neg (show ¬ (p.length : Int) = 1 by omega), if_neg h]
  | n + 1, i, K, p, hi, hp, hk => by
    obtain ⟨K, rfl⟩ : ∃ m, K = m + 7 := ⟨K - 7, by omega⟩
    have hlt : i < L.length := by omega
    rw [spec_ExprOk.l0]
    rw [if_pos (by omega), if_pos (by omega), rd86 L i hlt, specTok_is l0 l1 l2 _ h0 h1 h2, List.drop_eq_getElem_cons hlt, List.all_cons]
    generalize hx : L[i] = x
    obtain ⟨t, et⟩ := takes_some x.f0
    cases ht : tokB l0 l1 l2 x with
    | false =>
      rw [et, kinds_is x.f0 (K + 5)]
      simp only [Option.bind_some, Bool.false_and, Bool.false_eq_true, if_false]
      rw [spec_ExprOk.j2]
      exact if_pos rfl
    | true =>
      obtain ⟨r1, r2⟩ := tok_range l0 l1 l2 x ht
      obtain ⟨kd, e1, e2, e3⟩ := op_is x.f0 (K + 5) r1 r2
      have wl := want_len x.f0
      rw [e1, e2]
      simp only [Option.bind_some, Bool.true_and, if_true]
      rw [spec_ExprOk.j2, loop]
      by_cases hlw : p.length < (want x.f0).length
      · rw [if_pos (decide_eq_true (by omega)), if_pos hlw]
        simp
      · rw [if_neg (by simpa using hlw), if_neg hlw]
        have hw : wrap64 ((p.length : Int) - ((want x.f0).length : Int)) = ((p.length - (want x.f0).length : Nat) : Int) := by unfold wrap64; omega
        have q := expr_l1 L p l0 l1 l2 i (want x.f0).length kd (leaf x.f0) (by omega) (by omega) (by omega) (by omega) (by omega) (want x.f0).length (p.length - (want x.f0).length) (K + 4 - (want x.f0).length) (by omega)
        rw [show K + 4 - (want x.f0).length + (want x.f0).length + 1 = K + 5 by omega, ← e3] at q
        rw [hw, q, Int.toNat_natCast]
        by_cases hd : p.drop (p.length - (want x.f0).length) = want x.f0
        · rw [if_pos hd, if_pos hd]
          have ih := expr_l0 L hL l0 l1 l2 h0 h1 h2 n (i + 1) (K + 4 - (want x.f0).length) (p.take (p.length - (want x.f0).length) ++ [leaf x.f0]) (by omega) (by rw [List.length_append, List.length_take, List.length_cons, List.length_nil]; omega) (by omega)
          rw [← ih]
          rfl
        · rw [if_neg hd, if_neg hd]
          simp


open impl_Decl_kindOf in
def exprV (d fl : List ByteArray) (ar : List S91) (L : List S86) : Int :=
  if impl_Decl_isRight.ok d fl ar = true then (if L.length ≤ 40 then (if L.all (tokB d fl ar) = true then loop L [] else 0) else 0) else 0
theorem implExprOk_is (d fl : List ByteArray) (ar : List S91) (L : List S86) (f0 : FitS d) (f1 : FitS fl) (hm : ar.length ≤ 1048576) (hs : ∀ x ∈ ar, x.f0.size ≤ 1048576) : impl_ExprOk.f d fl ar L = some (exprV d fl ar L) := by
  have f0l := f0.1
  have f1l := f1.1
  unfold impl_ExprOk.f exprV
  rw [isRight_is _ _ _ f0 f1 hm hs]
  simp only [Option.bind_some]
  cases impl_Decl_isRight.ok d fl ar with
  | false => rfl
  | true =>
    unfold impl_Decl_kindOf.f
    simp only [if_true]
    rw [if_pos (by omega)]
    rfl
theorem specExprOk_is (d fl : List ByteArray) (ar : List S91) (L : List S86) (f0 : FitS d) (f1 : FitS fl) (hm : ar.length ≤ 1048576) (hs : ∀ x ∈ ar, x.f0.size ≤ 1048576) (k : Nat) (hk : 16800001 < k) : spec_ExprOk.f k d fl ar L = some (exprV d fl ar L) := by
  have f0l := f0.1
  have f1l := f1.1
  obtain ⟨k, rfl⟩ : ∃ m, k = m + 1 := ⟨k - 1, by omega⟩
  unfold spec_ExprOk.f exprV
  rw [specDeclOk_is _ _ _ f0 f1 hm hs _ (by omega)]
  simp only [Option.bind_some]
  cases impl_Decl_isRight.ok d fl ar with
  | false =>
    simp only [Bool.false_eq_true, if_false]
    rw [spec_ExprOk.j0]
    rfl
  | true =>
    simp only [if_true]
    rw [spec_ExprOk.j0]
    by_cases h40 : L.length ≤ 40
    · rw [if_neg (by simp; omega), if_pos h40, show (0 : Int) = ((0 : Nat) : Int) from rfl, expr_l0 L h40 d fl ar (by omega) (by omega) hm L.length 0 k [] (by omega) (by simp) (by omega)]
      rfl
    · rw [if_pos (decide_eq_true (by omega)), if_neg h40]
open impl_Decl_kindOf in
theorem loop_app (M : List S86) : ∀ (L : List S86) (p : List Int), loop L p ≠ 0 → loop (L ++ M) p = loop M [loop L p]
  | [], p, h => by
    unfold loop at h
    by_cases hp : p.length = 1
    · have : p = [p.getD 0 0] := by
        match p, hp with
        | [z], _ => rfl
      rw [List.nil_append]
      conv => lhs; rw [this]
      have e : loop [] p = p.getD 0 0 := by unfold loop; rw [if_pos hp]
      rw [e]
    · rw [if_neg hp] at h; exact absurd rfl h
  | x :: t, p, h => by
    rw [loop] at h
    rw [List.cons_append, loop]
    conv => rhs; rw [loop]
    by_cases h1 : p.length < (want x.f0).length
    · rw [if_pos h1] at h; exact absurd rfl h
    · rw [if_neg h1] at h ⊢
      rw [if_neg h1]
      by_cases h2 : p.drop (p.length - (want x.f0).length) = want x.f0
      · rw [if_pos h2] at h ⊢
        rw [if_pos h2]
        exact loop_app M t _ h
      · rw [if_neg h2] at h; exact absurd rfl h
open impl_Decl_kindOf in
theorem leaf_in (op : Int) : leaf op = 1 ∨ leaf op = 2 := by
  unfold leaf
  split
  · exact .inr rfl
  · split
    · exact .inr rfl
    · exact .inl rfl
open impl_Decl_kindOf in
theorem loop_in : ∀ (L : List S86) (p : List Int), (∀ z ∈ p, z = 1 ∨ z = 2) → loop L p ≠ 0 → loop L p = 1 ∨ loop L p = 2
  | [], p, hz, h => by
    unfold loop at h ⊢
    by_cases hp : p.length = 1
    · rw [if_pos hp]
      match p, hp with
      | [z], _ => exact hz z (by simp)
    · rw [if_neg hp] at h; exact absurd rfl h
  | x :: t, p, hz, h => by
    rw [loop] at h ⊢
    by_cases h1 : p.length < (want x.f0).length
    · rw [if_pos h1] at h; exact absurd rfl h
    · rw [if_neg h1] at h ⊢
      by_cases h2 : p.drop (p.length - (want x.f0).length) = want x.f0
      · rw [if_pos h2] at h ⊢
        refine loop_in t _ (fun z hm => ?_) h
        rcases List.mem_append.1 hm with h3 | h3
        · exact hz z (List.mem_of_mem_take h3)
        · rw [List.mem_singleton.1 h3]; exact leaf_in _
      · rw [if_neg h2] at h; exact absurd rfl h
open impl_Decl_kindOf in
theorem exprV_more (d fl : List ByteArray) (ar : List S91) (L : List S86) (h : exprV d fl ar L ≠ 0) (h38 : L.length ≤ 38) :
    impl_Decl_isRight.ok d fl ar = true ∧ ((exprV d fl ar L = 1 ∧ exprV d fl ar (L ++ [⟨19, 0⟩]) = 0 ∧ exprV d fl ar (L ++ [⟨7, 0⟩]) = 1) ∨ (exprV d fl ar L = 2 ∧ exprV d fl ar (L ++ [⟨19, 0⟩]) = 2 ∧ exprV d fl ar (L ++ [⟨7, 0⟩]) = 0)) := by
  have t1 : tokB d fl ar ⟨19, 0⟩ = true := by unfold tokB; simp
  have t2 : tokB d fl ar ⟨7, 0⟩ = true := by unfold tokB; simp
  unfold exprV at h ⊢
  by_cases hr : impl_Decl_isRight.ok d fl ar = true
  · rw [if_pos hr, if_pos (by omega)] at h
    by_cases ha : L.all (tokB d fl ar) = true
    · rw [if_pos ha] at h
      have l1 : (L ++ [(⟨19, 0⟩ : S86)]).length ≤ 40 := by simp only [List.length_append, List.length_cons, List.length_nil]; omega
      have l2 : (L ++ [(⟨7, 0⟩ : S86)]).length ≤ 40 := by simp only [List.length_append, List.length_cons, List.length_nil]; omega
      have a1 : (L ++ [(⟨19, 0⟩ : S86)]).all (tokB d fl ar) = true := by rw [List.all_append, ha]; simp [t1]
      have a2 : (L ++ [(⟨7, 0⟩ : S86)]).all (tokB d fl ar) = true := by rw [List.all_append, ha]; simp [t2]
      refine ⟨hr, ?_⟩
      rw [if_pos hr, if_pos (by omega), if_pos ha, if_pos hr, if_pos l1, if_pos a1, if_pos hr, if_pos l2, if_pos a2, loop_app _ L [] h, loop_app _ L [] h]
      rcases loop_in L [] (fun z hz => by cases hz) h with e | e
      · rw [e]
        exact .inl ⟨rfl, by decide, by decide⟩
      · rw [e]
        exact .inr ⟨rfl, by decide, by decide⟩
    · rw [if_neg ha] at h; exact absurd rfl h
  · rw [if_neg hr] at h; exact absurd rfl h

/-- A code of bytes, and a place in it. -/
def St (l : List Int) (p : Int) : Prop := (∀ x ∈ l, 0 ≤ x ∧ x ≤ 255) ∧ l.length ≤ 1048576 ∧ 0 ≤ p ∧ p ≤ l.length
theorem rd_mem {xs : List Int} {i : Int} (h0 : 0 ≤ i) (h1 : i < xs.length) : rd xs i ∈ xs := by
  unfold rd
  rw [List.getD_eq_getElem?_getD, List.getElem?_eq_getElem (by omega), Option.getD_some]
  exact List.getElem_mem _
theorem w64_in (x : Int) : -9223372036854775808 ≤ wrap64 x ∧ wrap64 x ≤ 9223372036854775807 := by
  unfold wrap64; omega
theorem next_ok {l : List Int} {p : Int} (h : St l p) : ∃ v q, spec_l1Rd_next.f l p = some (v, q) ∧ (0 ≤ v ∧ v ≤ 255) ∧ St l q := by
  obtain ⟨hb, hn, h0, h1⟩ := h
  unfold spec_l1Rd_next.f
  by_cases c : p ≥ (l.length : Int)
  · rw [if_pos c]; exact ⟨0, p, rfl, by omega, hb, hn, h0, h1⟩
  · have e1 : wrap64 (p + 1) = p + 1 := Math.w64_id (by omega) (by omega)
    have e2 : wrap64 (p + 1 - 1) = p := by rw [Math.w64_id (by omega) (by omega)]; omega
    have hv := hb _ (rd_mem h0 (show p < (l.length : Int) by omega))
    rw [if_neg c, e1, e2, if_pos h0, if_pos (by omega), Math.w64_id (by omega) (by omega)]
    exact ⟨rd l p, p + 1, rfl, hv, hb, hn, by omega, by omega⟩
theorem below_ok {l : List Int} {p : Int} (h : St l p) {n : Int} (h1 : 1 < n) (h2 : n ≤ 65536) : ∃ v q, spec_l1Rd_below.f l p n = some (v, q) ∧ (0 ≤ v ∧ v < n) ∧ St l q := by
  unfold spec_l1Rd_below.f
  rw [if_neg (by omega)]
  by_cases c : n ≤ 256
  · obtain ⟨v, q, e, hv, hq⟩ := next_ok h
    rw [if_pos c, e]
    simp only [Option.bind_some]
    rw [if_neg (by omega), Int.tmod_eq_emod_of_nonneg hv.1]
    exact ⟨_, q, rfl, ⟨Int.emod_nonneg _ (by omega), Int.emod_lt_of_pos _ (by omega)⟩, hq⟩
  · obtain ⟨v, q, e, hv, hq⟩ := next_ok h
    obtain ⟨v2, q2, e2, hv2, hq2⟩ := next_ok hq
    rw [if_neg c, e]
    simp only [Option.bind_some]
    rw [e2]
    simp only [Option.bind_some]
    rw [if_neg (by omega), Math.w64_id (x := v * 256) (by omega) (by omega), Math.w64_id (by omega) (by omega), Int.tmod_eq_emod_of_nonneg (by omega)]
    exact ⟨_, q2, rfl, ⟨Int.emod_nonneg _ (by omega), Int.emod_lt_of_pos _ (by omega)⟩, hq2⟩

theorem or_u64 (x y : Int) : 0 ≤ Go.bits .or .u64 x y ∧ Go.bits .or .u64 x y < 18446744073709551616 := by
  have := bounds_u64 (wf_bits .or .u64 x y)
  omega
theorem word_loop {l : List Int} (d : Nat) : ∀ (k : Nat) (x i p : Int), St l p → (0 ≤ x ∧ x < 18446744073709551616) → i + d = 8 → 0 ≤ i → d < k →
    ∃ v q, spec_l1Rd_word.l0 k x i l p = some (v, q) ∧ (0 ≤ v ∧ v < 18446744073709551616) ∧ St l q ∧ ∀ k', d < k' → spec_l1Rd_word.l0 k' x i l p = some (v, q) := by
  induction d with
  | zero =>
    intro k x i p h hx hi h0 hk
    have key : ∀ k', 0 < k' → spec_l1Rd_word.l0 k' x i l p = some (x, p) := by
      intro k' hk'
      obtain ⟨k', rfl⟩ : ∃ m, k' = m + 1 := ⟨k' - 1, by omega⟩
      simp only [spec_l1Rd_word.l0]; rw [if_neg (by omega)]
    exact ⟨x, p, key k hk, hx, h, key⟩
  | succ d ih =>
    intro k x i p h hx hi h0 hk
    obtain ⟨v, q, e, hv, hq⟩ := next_ok h
    obtain ⟨r, q2, _, hr, hq2, all⟩ := ih (d + 1) (Go.bits .or .u64 (IntKind.u64.wrap (x * 256)) (IntKind.u64.wrap v)) (i + 1) q hq (or_u64 _ _) (by omega) (by omega) (by omega)
    have key : ∀ k', d + 1 < k' → spec_l1Rd_word.l0 k' x i l p = some (r, q2) := by
      intro k' hk'
      obtain ⟨k', rfl⟩ : ∃ m, k' = m + 1 := ⟨k' - 1, by omega⟩
      simp only [spec_l1Rd_word.l0]
      rw [if_pos (by omega), e]
      simp only [Option.bind_some]
      rw [Math.w64_id (by omega) (by omega)]
      exact all k' (by omega)
    exact ⟨r, q2, key k hk, hr, hq2, key⟩
theorem word_ok {l : List Int} {p : Int} (h : St l p) : ∃ v q, (∀ k, 9 ≤ k → spec_l1Rd_word.f k l p = some (v, q)) ∧ (0 ≤ v ∧ v < 18446744073709551616) ∧ St l q := by
  obtain ⟨v, q, _, hv, hq, all⟩ := word_loop 8 9 0 0 p h (by omega) (by omega) (by omega) (by omega)
  exact ⟨v, q, fun k hk => all k (by omega), hv, hq⟩

theorem near_ok {l : List Int} {p : Int} (h : St l p) {lo hi : Int} (h1 : -9223372036854775808 ≤ lo ∧ lo ≤ 9223372036854775807) (h2 : -9223372036854775808 ≤ hi ∧ hi ≤ 9223372036854775807) (h3 : hi - lo < 18446744073709551615) :
    ∃ v q, (∀ k, 10 ≤ k → spec_l1Rd_near.f k l p lo hi = some (v, q)) ∧ (-9223372036854775808 ≤ v ∧ v ≤ 9223372036854775807) ∧ St l q := by
  unfold spec_l1Rd_near.f
  obtain ⟨c, q, e, hc, hq⟩ := below_ok h (n := 8) (by decide) (by decide)
  rw [e]
  simp only [Option.bind_some]
  by_cases c0 : c = 0
  · simp only [if_pos c0]; exact ⟨lo, q, fun _ _ => rfl, h1, hq⟩
  · simp only [if_neg c0]
    by_cases c1 : c = 1
    · simp only [if_pos c1]; exact ⟨hi, q, fun _ _ => rfl, h2, hq⟩
    · simp only [if_neg c1]
      by_cases g : hi < lo
      · simp only [if_pos g]; exact ⟨lo, q, fun _ _ => rfl, h1, hq⟩
      · simp only [if_neg g]
        obtain ⟨x, q2, e2, hx, hq2⟩ := word_ok hq
        have hw : IntKind.u64.wrap (wrap64 ((wrap64 (hi - lo)) + 1)) = hi - lo + 1 := by
          rw [Math.uwrap]; unfold wrap64; omega
        refine ⟨_, q2, fun k hk => ?_, w64_in (lo + (wrap64 (Int.tmod (x / 2) (hi - lo + 1)))), hq2⟩
        rw [e2 k (by omega)]
        simp only [Option.bind_some]
        rw [hw, if_neg (by omega)]

theorem once_ok {l : List Int} {p : Int} (h : St l p) {n : Int} (h1 : 1 < n) (h2 : n ≤ 65536) : ∃ b q, spec_l1Rd_once.f l p n = some (b, q) ∧ St l q := by
  obtain ⟨v, q, e, _, hq⟩ := below_ok h h1 h2
  unfold spec_l1Rd_once.f
  rw [e]
  exact ⟨_, q, rfl, hq⟩

theorem off_ok {l : List Int} {p : Int} (h : St l p) {lo hi : Int} (h1 : -9223372036854775808 ≤ lo ∧ lo ≤ 9223372036854775807) (h2 : -9223372036854775808 ≤ hi ∧ hi ≤ 9223372036854775807) (h3 : hi - lo < 18446744073709551615) :
    ∃ v q, (∀ k, 10 ≤ k → spec_l1Rd_off.f k l p lo hi = some (v, q)) ∧ (-9223372036854775808 ≤ v ∧ v ≤ 9223372036854775807) ∧ St l q := by
  unfold spec_l1Rd_off.f
  obtain ⟨o, q, e, hq⟩ := once_ok h (n := 24) (by decide) (by decide)
  rw [e]
  simp only [Option.bind_some]
  cases o with
  | true =>
    obtain ⟨i, q2, e2, hi2, hq2⟩ := below_ok hq (n := 4) (by decide) (by decide)
    simp only [if_true]
    rw [e2]
    simp only [Option.bind_some]
    rw [if_pos hi2.1, if_pos (by simpa using hi2.2)]
    refine ⟨_, q2, fun _ _ => rfl, ?_, hq2⟩
    have hm := rd_mem (xs := [wrap64 (lo - 1), wrap64 (hi + 1), (-9223372036854775808), 9223372036854775807]) hi2.1 (by simpa using hi2.2)
    generalize rd _ i = z at hm
    simp only [List.mem_cons, List.not_mem_nil, or_false] at hm
    rcases hm with rfl | rfl | rfl | rfl
    · exact w64_in _
    · exact w64_in _
    · decide
    · decide
  | false =>
    obtain ⟨v, q2, e2, hv, hq2⟩ := near_ok hq h1 h2 h3
    refine ⟨v, q2, fun k hk => ?_, hv, hq2⟩
    rw [if_neg (by decide), e2 k hk]; rfl

theorem nm_size (l : List UInt8) : ∀ s ∈ spec_l1Rd_decl.names l, s.size ≤ 1 := by
  intro s hs
  unfold spec_l1Rd_decl.names at hs
  obtain ⟨c, _, rfl⟩ := List.mem_map.1 hs
  exact Nat.le_refl _
theorem nm_len (l : List UInt8) : (spec_l1Rd_decl.names l).length = l.length := by
  unfold spec_l1Rd_decl.names
  rw [List.length_map]
theorem decl_ok {l : List Int} {p : Int} (h : St l p) : ∃ (d fl : List ByteArray) (ar : List S91) (q : Int), spec_l1Rd_decl.f l p = some (d, fl, ar, q) ∧ (1 ≤ d.length ∧ d.length ≤ 4) ∧ fl.length ≤ 3 ∧ ar.length ≤ 1 ∧ (∀ s ∈ d, s.size ≤ 1) ∧ (∀ s ∈ fl, s.size ≤ 1) ∧ (∀ x ∈ ar, x.f0.size ≤ 1) ∧ St l q := by
  obtain ⟨a, q1, e1, ha, h1⟩ := below_ok h (n := 4) (by decide) (by decide)
  obtain ⟨b, q2, e2, hb, h2⟩ := below_ok h1 (n := 2) (by decide) (by decide)
  obtain ⟨c, q3, e3, h3⟩ := once_ok h2 (n := 3) (by decide) (by decide)
  have hf : ∃ (fl : List ByteArray) (z q4 : Int), (if c = true then (spec_l1Rd_below.f l q3 4).bind fun d => some ((spec_l1Rd_decl.names [98, 99, 102]).take d.1.toNat, d.1, d.2) else some ((spec_l1Rd_decl.names [98, 99, 102]).take (1 + b).toNat, 0, q3)) = some (fl, z, q4) ∧ fl.length ≤ 3 ∧ (∀ s ∈ fl, s.size ≤ 1) ∧ (0 ≤ z ∧ z < 4) ∧ St l q4 := by
    have hl (n : Nat) : ((spec_l1Rd_decl.names [98, 99, 102]).take n).length ≤ 3 := by
      rw [List.length_take, nm_len]; simp only [List.length_cons, List.length_nil]; omega
    have hs (n : Nat) : ∀ s ∈ (spec_l1Rd_decl.names [98, 99, 102]).take n, s.size ≤ 1 := fun s hs => nm_size _ s (List.mem_of_mem_take hs)
    cases c with
    | true =>
      obtain ⟨z, q4, e4, hz, h4⟩ := below_ok h3 (n := 4) (by decide) (by decide)
      rw [if_pos rfl, e4]
      exact ⟨_, z, q4, rfl, hl _, hs _, hz, h4⟩
    | false =>
      rw [if_neg (by decide)]
      exact ⟨_, 0, q3, rfl, hl _, hs _, by omega, h3⟩
  obtain ⟨fl, z, q4, e4, hf1, hf2, hz, h4⟩ := hf
  obtain ⟨m, q5, e5, h5⟩ := once_ok h4 (n := 2) (by decide) (by decide)
  have hr : ∃ (ar : List S91) (q6 : Int), (if m = true then (spec_l1Rd_below.f l q5 6).bind fun z => some ([(⟨⟨#[97]⟩, wrap64 (1 + z.1)⟩ : S91)], z.2) else some ([], q5)) = some (ar, q6) ∧ ar.length ≤ 1 ∧ (∀ x ∈ ar, x.f0.size ≤ 1) ∧ St l q6 := by
    cases m with
    | true =>
      obtain ⟨y, q6, e6, hy, h6⟩ := below_ok h5 (n := 6) (by decide) (by decide)
      rw [if_pos rfl, e6]
      refine ⟨_, q6, rfl, Nat.le_refl _, fun x hx => ?_, h6⟩
      rw [List.mem_singleton.1 hx]
      exact Nat.le_refl _
    | false =>
      rw [if_neg (by decide)]
      exact ⟨_, q5, rfl, Nat.zero_le _, fun x hx => (by cases hx), h5⟩
  obtain ⟨ar, q6, e6, hr1, hr2, h6⟩ := hr
  refine ⟨(spec_l1Rd_decl.names [120, 121, 105, 110, 107]).take (1 + a).toNat, fl, ar, q6, ?_, ?_, hf1, hr1, fun s hs => nm_size _ s (List.mem_of_mem_take hs), hf2, hr2, h6⟩
  · unfold spec_l1Rd_decl.f
    rw [e1, Option.bind_some, e2, Option.bind_some, e3, Option.bind_some, e4, Option.bind_some, e5, Option.bind_some, e6, Option.bind_some, if_pos ⟨ha.1, ha.2, hb.1, hb.2, hz.1, hz.2⟩]
  · rw [List.length_take, nm_len]; simp only [List.length_cons, List.length_nil]; omega

theorem below1_ok {l : List Int} {p : Int} (h : St l p) {n : Int} (h1 : 1 ≤ n) (h2 : n ≤ 65536) : ∃ v q, spec_l1Rd_below.f l p n = some (v, q) ∧ (0 ≤ v ∧ v < n) ∧ St l q := by
  by_cases c : n = 1
  · refine ⟨0, p, ?_, by omega, h⟩
    unfold spec_l1Rd_below.f
    rw [if_pos (by omega)]
  · exact below_ok h (by omega) h2
theorem number_ok {l : List Int} {p : Int} (h : St l p) (d fl : List ByteArray) (ar : List S91) (x c : Int) :
    ∃ t q, (∀ k, 1 ≤ k → spec_l1Rd_sum.j1 k x c true l p d fl ar = some (t, q)) ∧ t.length = 1 ∧ St l q := by
  obtain ⟨a, q, e, ha, hq⟩ := below_ok h (n := 12) (by decide) (by decide)
  obtain ⟨o, q2, e2, hq2⟩ := once_ok hq (n := 20) (by decide) (by decide)
  cases o with
  | true =>
    obtain ⟨b, q3, e3, hb, hq3⟩ := below_ok hq2 (n := 4) (by decide) (by decide)
    refine ⟨[⟨1, rd [999999999999999999, 999999999999999999, 1000000000000000000, 1000] b⟩], q3, fun k hk => ?_, rfl, hq3⟩
    obtain ⟨k, rfl⟩ : ∃ m, k = m + 1 := ⟨k - 1, by omega⟩
    rw [spec_l1Rd_sum.j1, if_pos rfl, e]
    simp only [Option.bind_some]
    rw [e2]
    simp only [Option.bind_some, if_true]
    rw [e3]
    simp only [Option.bind_some]
    rw [if_pos hb.1, if_pos (by simpa using hb.2)]
  | false =>
    refine ⟨[⟨1, a⟩], q2, fun k hk => ?_, rfl, hq2⟩
    obtain ⟨k, rfl⟩ : ∃ m, k = m + 1 := ⟨k - 1, by omega⟩
    rw [spec_l1Rd_sum.j1, if_pos rfl, e]
    simp only [Option.bind_some]
    rw [e2]
    rfl
theorem sum_ok {l : List Int} (d fl : List ByteArray) (ar : List S91) (hd : d.length ≤ 65536) (ha : ar.length ≤ 65536) : ∀ (n : Nat) (x p : Int), St l p → -10 ≤ x → x ≤ n → n ≤ 10 →
    ∃ t q, (∀ k, 4 * n + 4 ≤ k → spec_l1Rd_sum.f k l p d fl ar x = some (t, q)) ∧ (1 ≤ t.length ∧ t.length + 1 ≤ 2 ^ (n + 1)) ∧ St l q := by
  intro n
  induction n with
  | zero =>
    intro x p h h0 hx _
    obtain ⟨c, q, e, hc, hq⟩ := below_ok h (n := 8) (by decide) (by decide)
    obtain ⟨t, q2, e2, ht, hq2⟩ := number_ok hq d fl ar x c
    by_cases g : c < 3 ∧ (d.length : Int) > 0
    · obtain ⟨v, q3, e3, hv, hq3⟩ := below1_ok hq (n := (d.length : Int)) (by omega) (by omega)
      refine ⟨[⟨2, v⟩], q3, fun k hk => ?_, by simp, hq3⟩
      obtain ⟨k, rfl⟩ : ∃ m, k = m + 4 := ⟨k - 4, by omega⟩
      rw [spec_l1Rd_sum.f, e]
      simp only [Option.bind_some]
      rw [if_pos g.1, decide_eq_true g.2, spec_l1Rd_sum.j0, if_pos rfl, e3]
      rfl
    · refine ⟨t, q2, fun k hk => ?_, by omega, hq2⟩
      obtain ⟨k, rfl⟩ : ∃ m, k = m + 4 := ⟨k - 4, by omega⟩
      have hj : spec_l1Rd_sum.j0 (k + 3) x c false l q d fl ar = some (t, q2) := by
        rw [spec_l1Rd_sum.j0, if_neg (by decide)]
        by_cases c4 : c < 4
        · rw [if_pos c4]; exact e2 _ (by omega)
        · rw [if_neg c4, decide_eq_true (show x ≤ 0 by omega)]; exact e2 _ (by omega)
      rw [spec_l1Rd_sum.f, e]
      simp only [Option.bind_some]
      by_cases c3 : c < 3
      · rw [if_pos c3, decide_eq_false (fun r => g ⟨c3, r⟩)]; exact hj
      · rw [if_neg c3]; exact hj
  | succ n ih =>
    intro x p h h0 hx hn
    have hp : 2 ^ (n + 1 + 1) = 2 * 2 ^ (n + 1) := by rw [Nat.pow_succ]; omega
    have hp1 : 2 ≤ 2 ^ (n + 1) := by
      have := Nat.pow_le_pow_right (n := 2) (by decide) (show 1 ≤ n + 1 by omega)
      simpa using this
    have hp2 : 2 ^ (n + 1) ≤ 2048 := by
      have := Nat.pow_le_pow_right (n := 2) (by decide) (show n + 1 ≤ 11 by omega)
      simpa using this
    obtain ⟨c, q, e, hc, hq⟩ := below_ok h (n := 8) (by decide) (by decide)
    obtain ⟨t, q2, e2, ht, hq2⟩ := number_ok hq d fl ar x c
    by_cases g : c < 3 ∧ (d.length : Int) > 0
    · obtain ⟨v, q3, e3, hv, hq3⟩ := below1_ok hq (n := (d.length : Int)) (by omega) (by omega)
      refine ⟨[⟨2, v⟩], q3, fun k hk => ?_, by simp only [List.length_cons, List.length_nil]; omega, hq3⟩
      obtain ⟨k, rfl⟩ : ∃ m, k = m + 4 := ⟨k - 4, by omega⟩
      rw [spec_l1Rd_sum.f, e]
      simp only [Option.bind_some]
      rw [if_pos g.1, decide_eq_true g.2, spec_l1Rd_sum.j0, if_pos rfl, e3]
      rfl
    · have hf : ∀ k r, (spec_l1Rd_sum.j0 (k + 3) x c false l q d fl ar = some r) → spec_l1Rd_sum.f (k + 4) l p d fl ar x = some r := by
        intro k r hj
        rw [spec_l1Rd_sum.f, e]
        simp only [Option.bind_some]
        by_cases c3 : c < 3
        · rw [if_pos c3, decide_eq_false (fun r => g ⟨c3, r⟩)]; exact hj
        · rw [if_neg c3]; exact hj
      by_cases c4 : c < 4 ∨ x ≤ 0
      · refine ⟨t, q2, fun k hk => ?_, by omega, hq2⟩
        obtain ⟨k, rfl⟩ : ∃ m, k = m + 4 := ⟨k - 4, by omega⟩
        refine hf k _ ?_
        rw [spec_l1Rd_sum.j0, if_neg (by decide)]
        by_cases c5 : c < 4
        · rw [if_pos c5]; exact e2 _ (by omega)
        · rw [if_neg c5, decide_eq_true (show x ≤ 0 by omega)]; exact e2 _ (by omega)
      · have hw := Math.w64_id (x := x - 1) (by omega) (by omega)
        have hg : ∀ k r b, b = (if c = 4 then decide ((ar.length : Int) > 0) else false) → (spec_l1Rd_sum.j2 (k + 1) x c b l q d fl ar = some r) → spec_l1Rd_sum.f (k + 4) l p d fl ar x = some r := by
          intro k r b hb hj
          refine hf k r ?_
          rw [spec_l1Rd_sum.j0, if_neg (by decide), if_neg (fun r => c4 (.inl r)), decide_eq_false (fun r => c4 (.inr r)), spec_l1Rd_sum.j1, if_neg (by decide)]
          by_cases c5 : c = 4
          · rw [if_pos c5] at hb ⊢; rw [← hb]; exact hj
          · rw [if_neg c5] at hb ⊢; rw [← hb]; exact hj
        by_cases c5 : c = 4
        · obtain ⟨s, q3, e3, hs, hq3⟩ := ih (x - 1) q hq (by omega) (by omega) (by omega)
          by_cases c6 : (ar.length : Int) > 0
          · obtain ⟨v, q4, e4, hv, hq4⟩ := below1_ok hq3 (n := (ar.length : Int)) (by omega) (by omega)
            refine ⟨s ++ [⟨6, v⟩], q4, fun k hk => ?_, by simp only [List.length_append, List.length_cons, List.length_nil]; omega, hq4⟩
            obtain ⟨k, rfl⟩ : ∃ m, k = m + 4 := ⟨k - 4, by omega⟩
            refine hg k _ true (by rw [if_pos c5, decide_eq_true c6]) ?_
            rw [spec_l1Rd_sum.j2, if_pos rfl, hw, e3 k (by omega)]
            simp only [Option.bind_some]
            rw [e4]
            simp only [Option.bind_some, List.length_cons, List.length_nil]
            rw [if_pos (by omega)]
          · refine ⟨s ++ [⟨7, 0⟩], q3, fun k hk => ?_, by simp only [List.length_append, List.length_cons, List.length_nil]; omega, hq3⟩
            obtain ⟨k, rfl⟩ : ∃ m, k = m + 4 := ⟨k - 4, by omega⟩
            refine hg k _ false (by rw [if_pos c5, decide_eq_false c6]) ?_
            rw [spec_l1Rd_sum.j2, if_neg (by decide), if_pos c5, hw, e3 k (by omega)]
            simp only [Option.bind_some, List.length_cons, List.length_nil]
            rw [if_pos (by omega)]
        · obtain ⟨b, q3, e3, hb, hq3⟩ := below_ok hq (n := 3) (by decide) (by decide)
          obtain ⟨o, q4, e4, hq4⟩ := once_ok hq3 (n := 4) (by decide) (by decide)
          cases o with
          | true =>
            obtain ⟨b2, q5, e5, hb2, hq5⟩ := below_ok hq4 (n := 2) (by decide) (by decide)
            obtain ⟨s, q6, e6, hs, hq6⟩ := ih (x - 1) q5 hq5 (by omega) (by omega) (by omega)
            obtain ⟨s2, q7, e7, hs2, hq7⟩ := ih (x - 1) q6 hq6 (by omega) (by omega) (by omega)
            refine ⟨(s ++ s2) ++ [⟨wrap64 (11 + b2), 0⟩], q7, fun k hk => ?_, by simp only [List.length_append, List.length_cons, List.length_nil]; omega, hq7⟩
            obtain ⟨k, rfl⟩ : ∃ m, k = m + 4 := ⟨k - 4, by omega⟩
            refine hg k _ false (by rw [if_neg c5]) ?_
            rw [spec_l1Rd_sum.j2, if_neg (by decide), if_neg c5, e3]
            simp only [Option.bind_some]
            rw [e4]
            simp only [Option.bind_some, if_true]
            rw [e5]
            simp only [Option.bind_some]
            rw [hw, e6 k (by omega)]
            simp only [Option.bind_some]
            rw [e7 k (by omega)]
            simp only [Option.bind_some, List.length_append, List.length_cons, List.length_nil]
            rw [if_pos (by omega), if_pos (by omega)]
          | false =>
            obtain ⟨s, q6, e6, hs, hq6⟩ := ih (x - 1) q4 hq4 (by omega) (by omega) (by omega)
            obtain ⟨s2, q7, e7, hs2, hq7⟩ := ih (x - 1) q6 hq6 (by omega) (by omega) (by omega)
            refine ⟨(s ++ s2) ++ [⟨wrap64 (8 + b), 0⟩], q7, fun k hk => ?_, by simp only [List.length_append, List.length_cons, List.length_nil]; omega, hq7⟩
            obtain ⟨k, rfl⟩ : ∃ m, k = m + 4 := ⟨k - 4, by omega⟩
            refine hg k _ false (by rw [if_neg c5]) ?_
            rw [spec_l1Rd_sum.j2, if_neg (by decide), if_neg c5, e3]
            simp only [Option.bind_some]
            rw [e4]
            simp only [Option.bind_some, Bool.false_eq_true, if_false]
            rw [hw, e6 k (by omega)]
            simp only [Option.bind_some]
            rw [e7 k (by omega)]
            simp only [Option.bind_some, List.length_append, List.length_cons, List.length_nil]
            rw [if_pos (by omega), if_pos (by omega)]
theorem expr_two {l : List Int} {p : Int} (h : St l p) (d fl : List ByteArray) (ar : List S91) (hd : d.length ≤ 65536) (ha : ar.length ≤ 65536) (n : Nat) (a x c : Int) (h0 : -9 ≤ x) (hx : x - 1 ≤ n) (hn : n ≤ 10) :
    ∃ t q, (∀ k, 4 * n + 5 ≤ k → spec_l1Rd_expr.j2 k a x c true l p d fl ar = some (t, q)) ∧ (1 ≤ t.length ∧ t.length + 1 ≤ 2 * 2 ^ (n + 1)) ∧ St l q := by
  have hw := Math.w64_id (x := x - 1) (by omega) (by omega)
  have hp2 : 2 ^ (n + 1) ≤ 2048 := by
    have := Nat.pow_le_pow_right (n := 2) (by decide) (show n + 1 ≤ 11 by omega)
    simpa using this
  obtain ⟨s, q, e, hs, hq⟩ := sum_ok d fl ar hd ha n (x - 1) p h (by omega) hx hn
  obtain ⟨s2, q2, e2, hs2, hq2⟩ := sum_ok d fl ar hd ha n (x - 1) q hq (by omega) hx hn
  obtain ⟨b, q3, e3, hb, hq3⟩ := below_ok hq2 (n := 6) (by decide) (by decide)
  refine ⟨(s ++ s2) ++ [⟨wrap64 (13 + b), 0⟩], q3, fun k hk => ?_, by simp only [List.length_append, List.length_cons, List.length_nil]; omega, hq3⟩
  obtain ⟨k, rfl⟩ : ∃ m, k = m + 1 := ⟨k - 1, by omega⟩
  rw [spec_l1Rd_expr.j2, if_pos rfl, hw, e k (by omega)]
  simp only [Option.bind_some]
  rw [e2 k (by omega)]
  simp only [Option.bind_some]
  rw [if_pos (by omega)]
  rw [e3]
  simp only [Option.bind_some, List.length_append]
  rw [if_pos (by omega)]
theorem expr_ok {l : List Int} (d fl : List ByteArray) (ar : List S91) (hd : d.length ≤ 65536) (hf : fl.length ≤ 65536) (ha : ar.length ≤ 65536) : ∀ (n : Nat) (a x p : Int), St l p → -9 ≤ x → x ≤ n → n ≤ 9 →
    ∃ t q, (∀ k, 4 * n + 12 ≤ k → spec_l1Rd_expr.f k l p d fl ar a x = some (t, q)) ∧ (1 ≤ t.length ∧ t.length + 1 ≤ 2 ^ (n + 3)) ∧ St l q := by
  intro n
  induction n with
  | zero =>
    intro a x p h h0 hx _
    by_cases a1 : a = 1
    · obtain ⟨s, q, e, hs, hq⟩ := sum_ok d fl ar hd ha 0 x p h (by omega) hx (by omega)
      refine ⟨s, q, fun k hk => ?_, ⟨hs.1, by have := hs.2; simp only [Nat.zero_add, Nat.pow_one] at this; omega⟩, hq⟩
      obtain ⟨k, rfl⟩ : ∃ m, k = m + 1 := ⟨k - 1, by omega⟩
      rw [spec_l1Rd_expr.f, if_pos a1, e k (by omega)]
      rfl
    obtain ⟨c, q, e, hc, hq⟩ := below_ok h (n := 8) (by decide) (by decide)
    by_cases g : (fl.length : Int) > 0 ∧ c < 5
    · obtain ⟨v, q3, e3, hv, hq3⟩ := below1_ok hq (n := (fl.length : Int)) (by omega) (by omega)
      refine ⟨[⟨3, v⟩], q3, fun k hk => ?_, by simp, hq3⟩
      obtain ⟨k, rfl⟩ : ∃ m, k = m + 4 := ⟨k - 4, by omega⟩
      rw [spec_l1Rd_expr.f, if_neg a1, e]
      simp only [Option.bind_some]
      rw [if_pos (by omega), if_pos g.1, decide_eq_true g.2, spec_l1Rd_expr.j0, if_pos rfl, e3]
      rfl
    · have hg : ∀ k r, (spec_l1Rd_expr.j1 (k + 2) a x c (decide (c < 6)) l q d fl ar = some r) → spec_l1Rd_expr.f (k + 4) l p d fl ar a x = some r := by
        intro k r hj
        have hj0 : spec_l1Rd_expr.j0 (k + 3) a x c false l q d fl ar = some r := by
          rw [spec_l1Rd_expr.j0, if_neg (by decide), if_pos (by omega)]; exact hj
        rw [spec_l1Rd_expr.f, if_neg a1, e]
        simp only [Option.bind_some]
        rw [if_pos (by omega)]
        by_cases g1 : (fl.length : Int) > 0
        · rw [if_pos g1, decide_eq_false (fun r => g ⟨g1, r⟩)]; exact hj0
        · rw [if_neg g1]; exact hj0
      by_cases c6 : c < 6
      · obtain ⟨b, q3, e3, hb, hq3⟩ := below_ok hq (n := 2) (by decide) (by decide)
        refine ⟨[⟨rd [4, 5] b, 0⟩], q3, fun k hk => ?_, by simp, hq3⟩
        obtain ⟨k, rfl⟩ : ∃ m, k = m + 4 := ⟨k - 4, by omega⟩
        refine hg k _ ?_
        rw [decide_eq_true c6, spec_l1Rd_expr.j1, if_pos rfl]
        simp only [Option.bind_some]
        rw [e3]
        simp only [Option.bind_some]
        rw [if_pos hb.1, if_pos (by simpa using hb.2)]
      · obtain ⟨t, q3, e3, ht, hq3⟩ := expr_two hq d fl ar hd ha 0 a x c (by omega) (by omega) (by omega)
        refine ⟨t, q3, fun k hk => ?_, ⟨ht.1, by have := ht.2; simp only [Nat.zero_add, Nat.pow_one] at this; omega⟩, hq3⟩
        obtain ⟨k, rfl⟩ : ∃ m, k = m + 4 := ⟨k - 4, by omega⟩
        refine hg k _ ?_
        rw [decide_eq_false c6, spec_l1Rd_expr.j1, if_neg (by decide), if_neg (by omega), decide_eq_true (show x ≤ 0 by omega)]
        exact e3 _ (by omega)
  | succ n ih =>
    intro a x p h h0 hx hn
    have hp : 2 ^ (n + 1 + 3) = 2 * 2 ^ (n + 3) := by rw [show n + 1 + 3 = (n + 3) + 1 by omega, Nat.pow_succ]; omega
    have hp3 : 2 ^ (n + 3) = 4 * 2 ^ (n + 1) := by rw [show n + 3 = (n + 1) + 2 by omega, Nat.pow_add]; omega
    have hp4 : 2 ^ (n + 1 + 1) = 2 * 2 ^ (n + 1) := by rw [Nat.pow_succ]; omega
    have hp1 : 2 ≤ 2 ^ (n + 1) := by
      have := Nat.pow_le_pow_right (n := 2) (by decide) (show 1 ≤ n + 1 by omega)
      simpa using this
    have hp2 : 2 ^ (n + 1) ≤ 2048 := by
      have := Nat.pow_le_pow_right (n := 2) (by decide) (show n + 1 ≤ 11 by omega)
      simpa using this
    by_cases a1 : a = 1
    · obtain ⟨s, q, e, hs, hq⟩ := sum_ok d fl ar hd ha (n + 1) x p h (by omega) hx (by omega)
      refine ⟨s, q, fun k hk => ?_, ⟨hs.1, by have := hs.2; omega⟩, hq⟩
      obtain ⟨k, rfl⟩ : ∃ m, k = m + 1 := ⟨k - 1, by omega⟩
      rw [spec_l1Rd_expr.f, if_pos a1, e k (by omega)]
      rfl
    by_cases x0 : x ≤ 0
    · obtain ⟨t, q, e, ht, hq⟩ := ih a x p h h0 (by omega) (by omega)
      exact ⟨t, q, fun k hk => e k (by omega), ⟨ht.1, by have := ht.2; omega⟩, hq⟩
    obtain ⟨c, q, e, hc, hq⟩ := below_ok h (n := 8) (by decide) (by decide)
    have hw := Math.w64_id (x := x - 1) (by omega) (by omega)
    have hg : ∀ k r b, b = decide (c < 4) → (spec_l1Rd_expr.j2 (k + 1) a x c b l q d fl ar = some r) → spec_l1Rd_expr.f (k + 4) l p d fl ar a x = some r := by
      intro k r b hb hj
      rw [spec_l1Rd_expr.f, if_neg a1, e]
      simp only [Option.bind_some]
      rw [if_neg x0, spec_l1Rd_expr.j0, if_neg (by decide), if_neg x0, spec_l1Rd_expr.j1, if_neg (by decide)]
      by_cases c4 : c < 4
      · rw [if_pos c4]; rw [decide_eq_true c4] at hb; subst hb; exact hj
      · rw [if_neg c4, decide_eq_false x0]; rw [decide_eq_false c4] at hb; subst hb; exact hj
    by_cases c4 : c < 4
    · obtain ⟨t, q3, e3, ht, hq3⟩ := expr_two hq d fl ar hd ha (n + 1) a x c (by omega) (by omega) (by omega)
      refine ⟨t, q3, fun k hk => ?_, ⟨ht.1, by have := ht.2; omega⟩, hq3⟩
      obtain ⟨k, rfl⟩ : ∃ m, k = m + 4 := ⟨k - 4, by omega⟩
      exact hg k _ true (decide_eq_true c4).symm (e3 _ (by omega))
    · have hgf : ∀ k r, (spec_l1Rd_expr.j2 (k + 1) a x c false l q d fl ar = some r) → spec_l1Rd_expr.f (k + 4) l p d fl ar a x = some r := fun k r => hg k r false (decide_eq_false c4).symm
      by_cases c5 : c = 4
      · obtain ⟨s, q3, e3, hs, hq3⟩ := ih a (x - 1) q hq (by omega) (by omega) (by omega)
        refine ⟨s ++ [⟨19, 0⟩], q3, fun k hk => ?_, by simp only [List.length_append, List.length_cons, List.length_nil]; omega, hq3⟩
        obtain ⟨k, rfl⟩ : ∃ m, k = m + 4 := ⟨k - 4, by omega⟩
        refine hgf k _ ?_
        rw [spec_l1Rd_expr.j2, if_neg (by decide), if_pos c5, hw, e3 k (by omega)]
        simp only [Option.bind_some]
        rw [if_pos (by omega)]
      · by_cases c7 : c < 7
        · obtain ⟨s, q3, e3, hs, hq3⟩ := ih a (x - 1) q hq (by omega) (by omega) (by omega)
          obtain ⟨s2, q4, e4, hs2, hq4⟩ := ih a (x - 1) q3 hq3 (by omega) (by omega) (by omega)
          obtain ⟨b, q5, e5, hb, hq5⟩ := below_ok hq4 (n := 2) (by decide) (by decide)
          refine ⟨(s ++ s2) ++ [⟨wrap64 (20 + b), 0⟩], q5, fun k hk => ?_, by simp only [List.length_append, List.length_cons, List.length_nil]; omega, hq5⟩
          obtain ⟨k, rfl⟩ : ∃ m, k = m + 4 := ⟨k - 4, by omega⟩
          refine hgf k _ ?_
          rw [spec_l1Rd_expr.j2, if_neg (by decide), if_neg c5, if_pos c7, hw, e3 k (by omega)]
          simp only [Option.bind_some]
          rw [e4 k (by omega)]
          simp only [Option.bind_some]
          rw [if_pos (by omega)]
          rw [e5]
          simp only [Option.bind_some, List.length_append]
          rw [if_pos (by omega)]
        · obtain ⟨s, q3, e3, hs, hq3⟩ := ih a 0 q hq (by omega) (by omega) (by omega)
          refine ⟨s, q3, fun k hk => ?_, ⟨hs.1, by have := hs.2; omega⟩, hq3⟩
          obtain ⟨k, rfl⟩ : ∃ m, k = m + 4 := ⟨k - 4, by omega⟩
          refine hgf k _ ?_
          rw [spec_l1Rd_expr.j2, if_neg (by decide), if_neg c5, if_neg c7, e3 k (by omega)]
          rfl

theorem hurtDecl_ok {l : List Int} {p : Int} (h : St l p) (d fl : List ByteArray) (ar : List S91) (hd : d.length ≤ 4) (ha : ar.length ≤ 1) (sd : ∀ s ∈ d, s.size ≤ 10) (sa : ∀ x ∈ ar, x.f0.size ≤ 10) :
    ∃ d' ar' q, (∀ k, 10 ≤ k → spec_l1Rd_hurtDecl.f k l p d fl ar = some (d', fl, ar', q)) ∧ d'.length ≤ 6 ∧ ar'.length ≤ 2 ∧ (∀ s ∈ d', s.size ≤ 10) ∧ (∀ x ∈ ar', x.f0.size ≤ 10) ∧ St l q := by
  obtain ⟨c, q, e, hc, hq⟩ := below_ok h (n := 24) (by decide) (by decide)
  unfold spec_l1Rd_hurtDecl.f
  rw [e]
  simp only [Option.bind_some]
  by_cases c0 : c = 0
  · obtain ⟨b, q2, e2, hb, hq2⟩ := below_ok hq (n := 6) (by decide) (by decide)
    refine ⟨d ++ [rdOf ByteArray.empty [(⟨#[120]⟩ : ByteArray), (⟨#[105, 102]⟩ : ByteArray), (⟨#[88]⟩ : ByteArray), (⟨#[]⟩ : ByteArray), (⟨#[108, 111, 110, 103, 101, 114, 110, 97, 109, 101]⟩ : ByteArray), (⟨#[111, 107, 110, 97, 109, 101]⟩ : ByteArray)] b], ar, q2, fun k hk => ?_, by simp only [List.length_append, List.length_cons, List.length_nil]; omega, by omega, ?_, sa, hq2⟩
    · rw [if_pos c0, e2]
      simp only [Option.bind_some, List.nil_append, List.length_nil]
      rw [if_pos (by omega), if_pos hb.1, if_pos (by simpa using hb.2), if_pos (by omega)]
    · intro s hs
      rcases List.mem_append.1 hs with h1 | h1
      · exact sd s h1
      · rw [List.mem_singleton.1 h1]
        obtain ⟨i, hi, h6⟩ : ∃ i : Nat, b = i ∧ i < 6 := ⟨b.toNat, by omega, by omega⟩
        subst hi
        have : ∀ i : Nat, i < 6 → (rdOf ByteArray.empty [(⟨#[120]⟩ : ByteArray), (⟨#[105, 102]⟩ : ByteArray), (⟨#[88]⟩ : ByteArray), (⟨#[]⟩ : ByteArray), (⟨#[108, 111, 110, 103, 101, 114, 110, 97, 109, 101]⟩ : ByteArray), (⟨#[111, 107, 110, 97, 109, 101]⟩ : ByteArray)] (i : Int)).size ≤ 10 := by decide
        exact this i h6
  simp only [if_neg c0]
  by_cases c1 : c = 1
  · obtain ⟨v, q2, e2, _, hq2⟩ := off_ok hq (lo := 1) (hi := 16) (by decide) (by decide) (by decide)
    refine ⟨d, ar ++ [⟨⟨#[100]⟩, v⟩], q2, fun k hk => ?_, by omega, by simp only [List.length_append, List.length_cons, List.length_nil]; omega, sd, ?_, hq2⟩
    · rw [if_pos c1]
      simp only [List.nil_append, List.length_nil]
      rw [if_pos (by omega), e2 k hk]
      simp only [Option.bind_some]
      rw [if_pos (by omega)]
    · intro s hs
      rcases List.mem_append.1 hs with h1 | h1
      · exact sa s h1
      · rw [List.mem_singleton.1 h1]
        show (1 : Nat) ≤ 10
        decide
  simp only [if_neg c1]
  by_cases c2 : c = 2
  · obtain ⟨b, q2, e2, hb, hq2⟩ := below_ok hq (n := 2) (by decide) (by decide)
    have hw := Math.w64_id (x := 5 + b) (by omega) (by omega)
    refine ⟨[(⟨#[112]⟩ : ByteArray), (⟨#[113]⟩ : ByteArray), (⟨#[114]⟩ : ByteArray), (⟨#[115]⟩ : ByteArray), (⟨#[116]⟩ : ByteArray), (⟨#[117]⟩ : ByteArray)].take (5 + b).toNat, ar, q2, fun k hk => ?_, by rw [List.length_take]; simp only [List.length_cons, List.length_nil]; omega, by omega, ?_, sa, hq2⟩
    · rw [if_pos c2, e2]
      simp only [Option.bind_some]
      rw [hw, if_pos (by omega), if_pos (by simp only [List.length_cons, List.length_nil]; omega)]
    · intro s hs
      have : ∀ s ∈ [(⟨#[112]⟩ : ByteArray), (⟨#[113]⟩ : ByteArray), (⟨#[114]⟩ : ByteArray), (⟨#[115]⟩ : ByteArray), (⟨#[116]⟩ : ByteArray), (⟨#[117]⟩ : ByteArray)], s.size ≤ 10 := by
        intro s hs
        simp only [List.mem_cons, List.not_mem_nil, or_false] at hs
        rcases hs with rfl | rfl | rfl | rfl | rfl | rfl <;> decide
      exact this s (List.mem_of_mem_take hs)
  · exact ⟨d, ar, q, fun k hk => by rw [if_neg c2], by omega, by omega, sd, sa, hq⟩
theorem hurtExpr_l {l : List Int} {p : Int} : ∀ (n : Nat) (x : Int) (t : List S86), x + n = 42 → 0 ≤ x → t.length ≤ 1000 → ∃ t', (∀ k, n + 1 ≤ k → spec_l1Rd_hurtExpr.l0 k t x l p = some (t', p)) ∧ t'.length ≤ 1000
  | 0, x, t, hx, h0, ht => by
    refine ⟨t, fun k hk => ?_, ht⟩
    obtain ⟨k, rfl⟩ : ∃ m, k = m + 1 := ⟨k - 1, by omega⟩
    rw [spec_l1Rd_hurtExpr.l0, if_neg (by omega)]
  | n + 1, x, t, hx, h0, ht => by
    by_cases g : (t.length : Int) < 39 + ((l.length : Int) % 4)
    · obtain ⟨t', e, h'⟩ := @hurtExpr_l l p n (x + 1) (t ++ [⟨19, 0⟩]) (by omega) (by omega) (by simp only [List.length_append, List.length_cons, List.length_nil]; omega)
      refine ⟨t', fun k hk => ?_, h'⟩
      obtain ⟨k, rfl⟩ : ∃ m, k = m + 1 := ⟨k - 1, by omega⟩
      rw [spec_l1Rd_hurtExpr.l0, if_pos (by omega), if_pos g, if_pos (by omega), Math.w64_id (by omega) (by omega)]
      exact e k (by omega)
    · refine ⟨t, fun k hk => ?_, ht⟩
      obtain ⟨k, rfl⟩ : ∃ m, k = m + 1 := ⟨k - 1, by omega⟩
      rw [spec_l1Rd_hurtExpr.l0, if_pos (by omega), if_neg g]
theorem hurtExpr_ok {l : List Int} {p : Int} (h : St l p) (t : List S86) (h1 : 1 ≤ t.length) (h2 : t.length ≤ 900) :
    ∃ t' q, (∀ k, 60 ≤ k → spec_l1Rd_hurtExpr.f k l p t = some (t', q)) ∧ t'.length ≤ 1000 := by
  obtain ⟨c, q, e, hc, hq⟩ := below_ok h (n := 20) (by decide) (by decide)
  unfold spec_l1Rd_hurtExpr.f
  rw [e]
  simp only [Option.bind_some]
  by_cases c0 : c = 0
  · have hw := Math.w64_id (x := (t.length : Int) + 1) (by omega) (by omega)
    obtain ⟨b, q2, e2, hb, hq2⟩ := below_ok hq (n := (t.length : Int) + 1) (by omega) (by omega)
    refine ⟨t.take b.toNat, q2, fun k hk => ?_, by rw [List.length_take]; omega⟩
    rw [if_pos c0, hw, e2]
    simp only [Option.bind_some]
    rw [if_pos hb.1, if_pos (by omega)]
  simp only [if_neg c0]
  by_cases c1 : c = 1
  · obtain ⟨b, q2, e2, hb, hq2⟩ := below1_ok hq (n := (t.length : Int)) (by omega) (by omega)
    obtain ⟨v, q3, e3, _, hq3⟩ := off_ok hq2 (lo := 1) (hi := 21) (by decide) (by decide) (by decide)
    refine ⟨t.set b.toNat ⟨v, (rd_T86 t b).f1⟩, q3, fun k hk => ?_, by rw [List.length_set]; omega⟩
    rw [if_pos c1, e2]
    simp only [Option.bind_some]
    rw [e3 k (by omega)]
    simp only [Option.bind_some]
    rw [if_pos hb.1, if_pos hb.2]
  simp only [if_neg c1]
  by_cases c2 : c = 2
  · obtain ⟨b, q2, e2, hb, hq2⟩ := below1_ok hq (n := (t.length : Int)) (by omega) (by omega)
    obtain ⟨v, q3, e3, _, hq3⟩ := off_ok hq2 (lo := 0) (hi := 3) (by decide) (by decide) (by decide)
    refine ⟨t.set b.toNat ⟨(rd_T86 t b).f0, v⟩, q3, fun k hk => ?_, by rw [List.length_set]; omega⟩
    rw [if_pos c2, e2]
    simp only [Option.bind_some]
    rw [e3 k (by omega)]
    simp only [Option.bind_some]
    rw [if_pos hb.1, if_pos hb.2]
  simp only [if_neg c2]
  by_cases c3 : c = 3
  · obtain ⟨t', e', h'⟩ := @hurtExpr_l l q 42 0 t (by omega) (by omega) (by omega)
    exact ⟨t', q, fun k hk => by rw [if_pos c3]; exact e' k (by omega), h'⟩
  · exact ⟨t, q, fun k hk => by rw [if_neg c3], by omega⟩

theorem FnKinds (l0 : List Int) (b0 : ∀ x ∈ l0, 0 ≤ x ∧ x ≤ 255) : ∃ k, laws_FnKinds.f k l0 = some true := by
  refine ⟨16800010, ?_⟩
  unfold laws_FnKinds.f laws_big.f
  simp only [Option.bind_some]
  by_cases hn : (l0.length : Int) > 1048576
  · rw [if_pos (by simpa using hn)]
  · have h0 : St l0 0 := ⟨b0, by omega, by omega, by omega⟩
    obtain ⟨d, fl, ar, q, e, hd, hf, ha, sd, sf, sa, hq⟩ := decl_ok h0
    obtain ⟨a, q1, e1, ha1, hq1⟩ := below_ok hq (n := 2) (by decide) (by decide)
    obtain ⟨b, q2, e2, hb1, hq2⟩ := below_ok hq1 (n := 3) (by decide) (by decide)
    have hw1 := Math.w64_id (x := 1 + a) (by omega) (by omega)
    have hw2 := Math.w64_id (x := 1 + b) (by omega) (by omega)
    obtain ⟨t, q3, e3, ht, hq3⟩ := expr_ok d fl ar (by omega) (by omega) (by omega) 3 (1 + a) (1 + b) q2 hq2 (by omega) (by omega) (by omega)
    have ht2 : t.length + 1 ≤ 64 := ht.2
    obtain ⟨d', ar', q4, e4, hd', ha', sd', sa', hq4⟩ := hurtDecl_ok hq3 d fl ar (by omega) (by omega) (fun s hs => by have := sd s hs; omega) (fun s hs => by have := sa s hs; omega)
    obtain ⟨L, q5, e5, hL⟩ := hurtExpr_ok hq4 t ht.1 (by omega)
    have ed : spec_DrawExprOk.f 16800010 l0 = some (d', fl, ar', L) := by
      unfold spec_DrawExprOk.f spec_l1Open.f
      simp only [Option.bind_some]
      rw [e]
      simp only [Option.bind_some]
      rw [e1]
      simp only [Option.bind_some]
      rw [e2]
      simp only [Option.bind_some]
      rw [hw1, hw2, e3 _ (by omega)]
      simp only [Option.bind_some]
      rw [e4 _ (by omega)]
      simp only [Option.bind_some]
      rw [e5 _ (by omega)]
      rfl
    have f0 : FitS d' := ⟨by omega, fun s hs => by have := sd' s hs; omega⟩
    have f1 : FitS fl := ⟨by omega, fun s hs => by have := sf s hs; omega⟩
    have f2 : ∀ x ∈ ar', x.f0.size ≤ 1048576 := fun s hs => by have := sa' s hs; omega
    have hI : ∀ M, impl_ExprOk.f d' fl ar' M = some (exprV d' fl ar' M) := fun M => implExprOk_is _ _ _ _ f0 f1 (by omega) f2
    rw [if_neg (by simpa using hn), ed]
    simp only [Option.bind_some]
    rw [hI, specExprOk_is _ _ _ _ f0 f1 (by omega) f2 _ (by omega)]
    simp only [Option.bind_some, if_true]
    have done : laws_FnKinds.j0 16800010 L (exprV d' fl ar' L) true d' fl ar' = some true := by
      rw [laws_FnKinds.j0, if_pos rfl, specExprOk_is _ _ _ _ f0 f1 (by omega) f2 _ (by omega)]
      simp
    by_cases z : exprV d' fl ar' L = 0
    · rw [if_pos z]; exact done
    rw [if_neg z]
    by_cases h38 : (L.length : Int) > 38
    · rw [decide_eq_true h38]; exact done
    rw [decide_eq_false h38, laws_FnKinds.j0, if_neg (by decide)]
    obtain ⟨hr, hv⟩ := exprV_more d' fl ar' L z (by omega)
    unfold impl_DeclOk.f
    rw [isRight_is _ _ _ f0 f1 (by omega) f2, hr]
    simp only [Option.bind_some, List.nil_append, List.length_nil, List.length_cons]
    rw [if_pos (by omega), if_pos (by omega), hI, hI]
    simp only [Option.bind_some, if_true]
    rw [if_pos (by omega), if_pos (by omega)]
    rcases hv with ⟨v1, v2, v3⟩ | ⟨v1, v2, v3⟩
    · rw [v1, v2, v3]; rfl
    · rw [v1, v2, v3]; rfl

end Go.Proofs.YtcomagipdbdglaaDoor.PureFnKinds
