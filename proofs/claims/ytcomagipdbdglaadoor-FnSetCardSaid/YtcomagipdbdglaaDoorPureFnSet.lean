/- A variable set has that interval, all others have theirs, and the reference says the same, for every code: the law's function returns true. Conditions: none. -/
import Derived.Test.YtcomagipdbdglaaDoorQx0
import Derived.Test.YtcomagipdbdglaaDoorQx2
import Derived.Test.YtcomagipdbdglaaDoorQx3
import Derived.Test.YtcomagipdbdglaaDoorQx4
import Derived.Test.YtcomagipdbdglaaDoorQx5
import Derived.Test.YtcomagipdbdglaaDoorQx6
import Derived.Test.YtcomagipdbdglaaDoorQx7
import Derived.Test.YtcomagipdbdglaaDoorQx8
import Derived.Test.YtcomagipdbdglaaDoorQx9
import Derived.Test.YtcomagipdbdglaaDoorQx10
import Derived.Test.YtcomagipdbdglaaDoorQx11
import Derived.Test.YtcomagipdbdglaaDoorQx12
import Derived.Test.YtcomagipdbdglaaDoorQx13
import Derived.Test.YtcomagipdbdglaaDoorQx14
import Derived.Test.YtcomagipdbdglaaDoorQx15
import Derived.Test.YtcomagipdbdglaaDoorQx16
import Derived.Test.YtcomagipdbdglaaDoorQx19
import Derived.Test.YtcomagipdbdglaaDoorQx21
import Derived.Test.YtcomagipdbdglaaDoorQx22
import Derived.Test.YtcomagipdbdglaaDoorQx23
import Derived.Test.YtcomagipdbdglaaDoorQx24
import Derived.Test.YtcomagipdbdglaaDoorQx25
import Derived.Test.YtcomagipdbdglaaDoorQx26
import Derived.Test.YtcomagipdbdglaaDoorQx27
import Derived.Test.YtcomagipdbdglaaDoorQx28
import Derived.Test.YtcomagipdbdglaaDoorQx29
import Derived.Test.YtcomagipdbdglaaDoorQx30
import Derived.Test.YtcomagipdbdglaaDoorQx31
import Derived.Test.YtcomagipdbdglaaDoorQx32
import Derived.Test.YtcomagipdbdglaaDoorQx33
import Derived.Test.YtcomagipdbdglaaDoorQx34
import Derived.Test.YtcomagipdbdglaaDoorQx35
import Derived.Test.YtcomagipdbdglaaDoorQx36
import Derived.Test.YtcomagipdbdglaaDoorQx37
import Derived.Test.YtcomagipdbdglaaDoorQx38
import Derived.Test.YtcomagipdbdglaaDoorQx39
import Derived.Test.YtcomagipdbdglaaDoorQx40
import Derived.Test.YtcomagipdbdglaaDoorMath
namespace Go.Proofs.YtcomagipdbdglaaDoor.PureFnSet
open Go.RowKit Go.Proofs.YtcomagipdbdglaaDoor Go.Proofs.YtcomagipdbdglaaDoor.Q Go.Proofs.YtcomagipdbdglaaDoorW.PrintWords Go.Proofs.YtcomagipdbdglaaDoorW.PrintLast
set_option linter.unusedVariables false
set_option linter.unusedSimpArgs false

theorem rdS (l : List ByteArray) (i : Int) (h0 : 0 ≤ i) (h1 : i < l.length) : ∃ h : i.toNat < l.length, rdOf ByteArray.empty l i = l[i.toNat] := by
  have h : i.toNat < l.length := by omega
  refine ⟨h, ?_⟩
  unfold rdOf
  simp [List.getD_eq_getElem?_getD, h]
theorem rd91 (l : List S91) (i : Int) (h0 : 0 ≤ i) (h1 : i < l.length) : ∃ h : i.toNat < l.length, rd_T91 l i = l[i.toNat] := by
  have h : i.toNat < l.length := by omega
  refine ⟨h, ?_⟩
  unfold rd_T91
  simp [List.getD_eq_getElem?_getD, h]
def FitS (l : List ByteArray) : Prop := l.length ≤ 1048576 ∧ ∀ x ∈ l, x.size ≤ 1048576

open impl_Decl_isRight in
theorem key_l (s : ByteArray) (l : List ByteArray) (hl : l.length ≤ 2097152) : ∀ (n i k : Nat), i + n = l.length → n < k → spec_l3Key.l0 k s l i = some (has (l.drop i) s)
  | 0, i, k + 1, hi, _ => by
    unfold spec_l3Key.l0
    rw [if_neg (by omega), List.drop_eq_nil_of_le (by omega)]
    rfl
  | n + 1, i, k + 1, hi, hk => by
    have hlt : i < l.length := by omega
    have hd : rdOf ByteArray.empty l (i : Int) = l[i] := by unfold rdOf; simp [List.getD_eq_getElem?_getD, hlt]
    have hc : l.drop i = l[i] :: l.drop (i + 1) := List.drop_eq_getElem_cons hlt
    unfold spec_l3Key.l0
    rw [if_pos (by omega), if_pos (by omega), hd, w1 i (by omega), hc]
    unfold has
    rw [List.any_cons]
    by_cases he : s = l[i]
    · rw [if_pos ((teq _ _).2 he.symm)]
      simp [he]
    · rw [if_neg (fun h => he ((teq _ _).1 h).symm), key_l s l hl n (i + 1) k (by omega) (by omega)]
      simp [he, has]
open impl_Decl_isRight in
theorem specKey_is (s : ByteArray) (k : Nat) (hk : 16 < k) : spec_l3Key.f k s = some (has impl_isWord.words s) := key_l s impl_isWord.words (by decide) 16 0 k rfl hk
open impl_Decl_isRight in
theorem specName_l (s : ByteArray) (hs : s.size ≤ 1048576) : ∀ n i k, i + n = s.size → n + 20 < k → spec_l3Name.l0 k s i = some (((s.data.toList.drop i).all fun c => decide (97 ≤ c.toNat ∧ c.toNat ≤ 122)) && decide (1 ≤ s.size ∧ s.size ≤ 8) && !(has impl_isWord.words s))
  | 0, i, k + 1, hi, hk => by
    have hz : s.data.toList.length = s.size := rfl
    unfold spec_l3Name.l0 spec_l1In.f
    rw [if_neg (by omega), List.drop_eq_nil_of_le (by omega), specKey_is s k (by omega)]
    by_cases h1 : 1 ≤ s.size
    · rw [if_pos (by omega)]
      by_cases h8 : s.size ≤ 8
      · have h1' : (1 : Int) ≤ (s.size : Int) := by omega
        have h8' : (s.size : Int) ≤ 8 := by omega
        simp [h1, h8, h1', h8']
      · have h8' : ¬ (s.size : Int) ≤ 8 := by omega
        simp [h1, h8, h8']
    · rw [if_neg (by omega)]
      simp [h1]
  | n + 1, i, k + 1, hi, hk => by
    have hz : s.data.toList.length = s.size := rfl
    have hlt : i < s.size := by omega
    have hc : s.data.toList.drop i = (s.data.toList[i]'hlt) :: s.data.toList.drop (i + 1) := List.drop_eq_getElem_cons hlt
    unfold spec_l3Name.l0
    rw [if_pos (by omega), if_pos (by omega), impl_Decl_isRight.byte s i hlt, w1 i (by omega), specName_l s hs n (i + 1) k (by omega) (by omega), hc]
    generalize s.data.toList[i]'hlt = b
    by_cases h1 : 97 ≤ b.toNat
    · rw [if_neg (by omega)]
      by_cases h2 : b.toNat ≤ 122
      · rw [if_neg (by omega)]
        simp [h1, h2]
      · rw [if_pos (by omega)]
        simp [h2]
    · rw [if_pos (by omega)]
      simp [h1]
open impl_Decl_isRight in
theorem specName_is (s : ByteArray) (hs : s.size ≤ 1048576) (k : Nat) (hk : 1048600 < k) : spec_l3Name.f k s = some (nameB s) := specName_l s hs s.size 0 k (by omega) (by omega)
open impl_Decl_isRight in
theorem place_l (l : List ByteArray) (s : ByteArray) (hl : l.length ≤ 4194304) : ∀ n i k, i + n = l.length → n < k → ∃ t, spec_l3Place.l0 k l s i = some t ∧ decide (t ≥ 0) = has (l.drop i) s
  | 0, i, k + 1, hi, _ => by
    refine ⟨-1, ?_, ?_⟩
    · unfold spec_l3Place.l0
      rw [if_neg (by omega)]
    · rw [List.drop_eq_nil_of_le (by omega)]; rfl
  | n + 1, i, k + 1, hi, hk => by
    have hlt : i < l.length := by omega
    have hd : rdOf ByteArray.empty l (i : Int) = l[i] := by unfold rdOf; simp [List.getD_eq_getElem?_getD, hlt]
    have hc : l.drop i = l[i] :: l.drop (i + 1) := List.drop_eq_getElem_cons hlt
    unfold spec_l3Place.l0
    rw [if_pos (by omega), if_pos (by omega), hd, w1 i (by omega)]
    by_cases he : s = l[i]
    · rw [if_pos ((teq _ _).2 he.symm)]
      exact ⟨i, rfl, by rw [hc]; unfold has; rw [List.any_cons]; simp [he]⟩
    · rw [if_neg (fun h => he ((teq _ _).1 h).symm)]
      obtain ⟨t, h1, h2⟩ := place_l l s hl n (i + 1) k (by omega) (by omega)
      exact ⟨t, h1, by rw [h2, hc]; unfold has; rw [List.any_cons]; simp [he]⟩
open impl_Decl_isRight in
theorem specRun_l (L : List ByteArray) (hl : L.length ≤ 4194304) (hs : ∀ s ∈ L, s.size ≤ 1048576) (B : Nat) (hB : 4194400 ≤ B) : ∀ n i k, i + n = L.length → n + B < k → spec_DeclOk.l1 k L i = some (run (L.take i) (L.drop i))
  | 0, i, k + 1, hi, _ => by
    unfold spec_DeclOk.l1
    rw [if_neg (by omega), List.drop_eq_nil_of_le (by omega)]
    rfl
  | n + 1, i, k + 1, hi, hk => by
    have hlt : i < L.length := by omega
    have hd : rdOf ByteArray.empty L (i : Int) = L[i] := by unfold rdOf; simp [List.getD_eq_getElem?_getD, hlt]
    have hc : L.drop i = L[i] :: L.drop (i + 1) := List.drop_eq_getElem_cons hlt
    have hlk : (L.take i).length = i := by simp; omega
    have ht : L.take (i + 1) = L.take i ++ [L[i]] := List.take_succ_eq_append_getElem hlt
    obtain ⟨t, e1, e2⟩ := place_l (L.take i) L[i] (by omega) i 0 k (by omega) (by omega)
    rw [List.drop_zero] at e2
    have ih := specRun_l L hl hs B hB n (i + 1) k (by omega) (by omega)
    unfold spec_DeclOk.l1
    rw [if_pos (by omega), if_pos (by omega), hd, w1 i (by omega), specName_is _ (hs _ (List.getElem_mem hlt)) k (by omega), if_pos (by omega), Int.toNat_natCast, hc]
    unfold run
    rw [← ht]
    have e1' : spec_l3Place.f k (L.take i) L[i] = some t := e1
    rw [e1', Option.bind_some, Option.bind_some, ← e2]
    cases nameB L[i] with
    | false => simp
    | true =>
      by_cases htt : t ≥ 0
      · have h2 : decide (t ≥ 0) = true := decide_eq_true htt
        rw [h2, if_pos rfl, if_pos htt]; rfl
      · have h2 : decide (t ≥ 0) = false := decide_eq_false htt
        rw [h2, if_pos rfl, if_neg htt, ih]; simp
open impl_Decl_isRight in
theorem specArr_l (l0 l1 : List ByteArray) (l2 : List S91) (hl : l2.length ≤ 1048576) (hs : ∀ x ∈ l2, x.f0.size ≤ 1048576) (B : Nat) (hB : 8400000 ≤ B) (M : Nat) (hM : M = 4194304) : ∀ n i k (X : List ByteArray), i + n = l2.length → n + X.length ≤ M → (∀ s ∈ X, s.size ≤ 1048576) → n + B < k → spec_DeclOk.l0 k X i l0 l1 l2 = some ((l2.drop i).all sizeB && run [] (X ++ (l2.drop i).map (·.f0)))
  | 0, i, k + 1, X, hi, hX, hsX, hk => by
    unfold spec_DeclOk.l0
    rw [if_neg (by omega), List.drop_eq_nil_of_le (by omega), show (0 : Int) = ((0 : Nat) : Int) from rfl, specRun_l X (by omega) hsX 4194400 (Nat.le_refl _) X.length 0 k (by omega) (by omega)]
    simp
  | n + 1, i, k + 1, X, hi, hX, hsX, hk => by
    have hlt : i < l2.length := by omega
    have hd : rd_T91 l2 (i : Int) = l2[i] := by unfold rd_T91; simp [List.getD_eq_getElem?_getD, hlt]
    have hc : l2.drop i = l2[i] :: l2.drop (i + 1) := List.drop_eq_getElem_cons hlt
    have ih := specArr_l l0 l1 l2 hl hs B hB M hM n (i + 1) k (X ++ [l2[i].f0]) (by omega) (by simp; omega) (fun s hm => by
      rcases List.mem_append.1 hm with hm | hm
      · exact hsX s hm
      · rw [List.mem_singleton.1 hm]; exact hs _ (List.getElem_mem hlt)) (by omega)
    have hin : spec_l1In.f l2[i].f1 1 16 = some (sizeB l2[i]) := by
      unfold spec_l1In.f sizeB
      by_cases h1 : 1 ≤ l2[i].f1 <;> by_cases h2 : l2[i].f1 ≤ 16 <;> simp [h1, h2]
    unfold spec_DeclOk.l0
    rw [if_pos (by omega), if_pos (by omega), hd, w1 i (by omega), hin, if_pos (by omega), ih, hc, Option.bind_some, List.all_cons, List.map_cons]
    cases sizeB l2[i] with
    | false => rw [if_neg (by decide)]; rfl
    | true => rw [if_pos rfl, Bool.true_and, List.append_assoc]; rfl
open impl_Decl_isRight in
theorem specDeclOk_is (l0 l1 : List ByteArray) (l2 : List S91) (b0 : FitS l0) (b1 : FitS l1) (hl : l2.length ≤ 1048576) (hs : ∀ x ∈ l2, x.f0.size ≤ 1048576) (k : Nat) (hk : 16800000 < k) : spec_DeclOk.f k l0 l1 l2 = some (ok l0 l1 l2) := by
  obtain ⟨k, rfl⟩ : ∃ m, k = m + 1 := ⟨k - 1, by omega⟩
  unfold spec_DeclOk.f ok
  have hj : ∀ b, spec_DeclOk.j0 (k + 1) b l0 l1 l2 = some (!b && (l2.all sizeB && run [] (l0 ++ l1 ++ l2.map (·.f0)))) := by
    intro b
    simp only [spec_DeclOk.j0]
    cases b with
    | true => rfl
    | false =>
      rw [if_neg (by decide), Option.bind_some, if_pos (by have := b0.1; simp; omega), Option.bind_some, if_pos (by have := b0.1; have := b1.1; simp; omega)]
      rw [show (0 : Int) = ((0 : Nat) : Int) from rfl, specArr_l l0 l1 l2 hl hs 8400000 (Nat.le_refl _) 4194304 rfl l2.length 0 k _ (by omega) (by have := b0.1; have := b1.1; simp; omega) (fun s hm => by
        rw [List.nil_append] at hm
        rcases List.mem_append.1 hm with hm | hm
        · exact b0.2 s hm
        · exact b1.2 s hm) (by omega)]
      simp
  rw [hj, hj]
  by_cases h5 : l0.length ≤ 5
  · rw [if_neg (by omega)]
    by_cases h3 : l1.length ≤ 3
    · rw [if_neg (by omega)]
      by_cases h2 : l2.length ≤ 2
      · have h2' : ¬ ((l2.length : Int) > 2) := by omega
        simp only [h5, h3, h2, h2', decide_true, decide_false, Bool.and_true, Bool.not_false, Bool.true_and]
        rw [Bool.and_comm]
      · have h2' : ((l2.length : Int) > 2) := by omega
        simp [h2, h2']
    · rw [if_pos (by omega)]
      simp [h3]
  · rw [if_pos (by omega)]
    simp [h5]
open impl_Decl_isRight in
theorem isRight_is (l0 l1 : List ByteArray) (l2 : List S91) (b0 : FitS l0) (b1 : FitS l1) (hl : l2.length ≤ 1048576) (hs : ∀ x ∈ l2, x.f0.size ≤ 1048576) : impl_Decl_isRight.f l0 l1 l2 = some (ok l0 l1 l2) := by
  unfold impl_Decl_isRight.f
  rw [if_pos]
  refine ⟨by have := b0.1; have := b1.1; omega, fun s hm => ?_⟩
  have : s.size ≤ 1048576 := by
    rcases List.mem_append.1 hm with hm | hm
    · rcases List.mem_append.1 hm with hm | hm
      · exact b0.2 s hm
      · exact b1.2 s hm
    · obtain ⟨x, hx, rfl⟩ := List.mem_map.1 hm
      exact hs x hx
  omega

theorem rd78 (l : List S78) (i : Nat) (h : i < l.length) : rd_T78 l (i : Int) = l[i] := by unfold rd_T78; simp [List.getD_eq_getElem?_getD, h]
theorem l6List_is (v : Bool) (m1 m2 : List S78) (b1 : m1.length ≤ 1048576) (b2 : m2.length ≤ 1048576) : spec_l6List.f v m1 m2 = some (m1 ++ m2) := by
  unfold spec_l6List.f
  rw [Option.bind_some, if_pos (by simp; omega), Option.bind_some, if_pos (by simp; omega)]
  rfl
theorem specEnv_l (L : List S78) (hl : L.length ≤ 2097152) : ∀ n i k, i + n = L.length → n < k → spec_EnvOk.l0 k L i = some ((L.drop i).all impl_Decl_isEnv.ivB)
  | 0, i, k + 1, hi, _ => by
    unfold spec_EnvOk.l0
    rw [if_neg (by omega), List.drop_eq_nil_of_le (by omega)]
    rfl
  | n + 1, i, k + 1, hi, hk => by
    have hlt : i < L.length := by omega
    unfold spec_EnvOk.l0
    rw [if_pos (by omega), if_pos (by omega), rd78 L i hlt, impl_Decl_isRight.w1 i (by omega), specEnv_l L hl n (i + 1) k (by omega) (by omega), List.drop_eq_getElem_cons hlt, List.all_cons]
    unfold spec_IvOk.f impl_Decl_isEnv.ivB
    rw [Option.bind_some]
    by_cases h : L[i].f0 ≤ L[i].f1
    · simp [h]
    · simp [h]
theorem specEnvOk_is (l0 l1 : List ByteArray) (l2 : List S91) (v : Bool) (m1 m2 : List S78) (b0 : FitS l0) (b1 : FitS l1) (hl : l2.length ≤ 1048576) (hs : ∀ x ∈ l2, x.f0.size ≤ 1048576) (c1 : m1.length ≤ 1048576) (c2 : m2.length ≤ 1048576) (k : Nat) (hk : 16800000 < k) :
    spec_EnvOk.f k l0 l1 l2 v m1 m2 = some (impl_Decl_isRight.ok l0 l1 l2 && impl_Decl_isEnv.ok l0 l2 v m1 m2) := by
  obtain ⟨k, rfl⟩ : ∃ m, k = m + 1 := ⟨k - 1, by omega⟩
  have hj : ∀ b, spec_EnvOk.j0 (k + 1) b v m1 m2 = some (!b && (m1.all impl_Decl_isEnv.ivB && m2.all impl_Decl_isEnv.ivB)) := by
    intro b
    simp only [spec_EnvOk.j0]
    cases b with
    | true => rfl
    | false =>
      rw [if_neg (by decide), l6List_is v m1 m2 c1 c2, Option.bind_some, show (0 : Int) = ((0 : Nat) : Int) from rfl, specEnv_l _ (by simp; omega) (m1 ++ m2).length 0 k (by omega) (by simp; omega), List.drop_zero, List.all_append]
      rfl
  unfold spec_EnvOk.f impl_Decl_isEnv.ok
  rw [specDeclOk_is l0 l1 l2 b0 b1 hl hs _ hk, Option.bind_some, hj, hj]
  cases impl_Decl_isRight.ok l0 l1 l2 with
  | false => simp
  | true =>
    cases v with
    | false =>
      simp only [Bool.false_eq_true, if_false, if_true, Bool.true_and]
      by_cases h1 : m1.length = 0
      · rw [if_pos (by omega)]
        by_cases h2 : m2.length = 0
        · simp [-List.length_eq_zero_iff, h1, h2]
        · rw [decide_eq_true h1, decide_eq_false h2, beq_eq_false_iff_ne.mpr (by omega)]; rfl
      · rw [if_neg (by omega), decide_eq_false h1]; rfl
    | true =>
      simp only [if_true, Bool.true_and]
      by_cases h1 : m1.length = l0.length
      · rw [if_pos (by omega)]
        by_cases h2 : m2.length = l2.length
        · simp [h1, h2]
        · simp [h1, h2, Int.ofNat_inj]
      · rw [if_neg (by omega)]
        simp [h1]
theorem isEnv_is (l0 l1 : List ByteArray) (l2 : List S91) (v : Bool) (m1 m2 : List S78) (c1 : m1.length ≤ 1048576) (c2 : m2.length ≤ 1048576) : impl_Decl_isEnv.f l0 l1 l2 v m1 m2 = some (impl_Decl_isEnv.ok l0 l2 v m1 m2) := by
  unfold impl_Decl_isEnv.f
  rw [if_pos ⟨by omega, by omega⟩]


def setB (l0 l1 : List ByteArray) (l2 : List S91) (v : Bool) (m1 m2 : List S78) (a x y : Int) : Bool :=
  (impl_Decl_isRight.ok l0 l1 l2 && impl_Decl_isEnv.ok l0 l2 v m1 m2) && (v && (decide (0 ≤ a ∧ a ≤ (l0.length : Int) - 1) && decide (x ≤ y)))
def setV (l0 l1 : List ByteArray) (l2 : List S91) (v : Bool) (m1 m2 : List S78) (a x y : Int) : Bool × List S78 × List S78 :=
  if setB l0 l1 l2 v m1 m2 a x y = true then (v, m1.set a.toNat ⟨x, y⟩, m2) else (false, [], [])
theorem setB_len {l0 l1 : List ByteArray} {l2 : List S91} {v : Bool} {m1 m2 : List S78} {a x y : Int} (h : setB l0 l1 l2 v m1 m2 a x y = true) : v = true ∧ m1.length = l0.length ∧ 0 ≤ a ∧ a < (m1.length : Int) := by
  unfold setB at h
  rw [Bool.and_eq_true, Bool.and_eq_true, Bool.and_eq_true, Bool.and_eq_true] at h
  obtain ⟨⟨_, h2⟩, hv, h3, _⟩ := h
  have h3 := of_decide_eq_true h3
  subst hv
  unfold impl_Decl_isEnv.ok at h2
  rw [if_pos rfl, Bool.and_eq_true, Bool.and_eq_true, Bool.and_eq_true] at h2
  have h4 := of_decide_eq_true h2.1.1.1
  exact ⟨rfl, h4, by omega, by omega⟩
theorem implEnvSet_is (l0 l1 : List ByteArray) (l2 : List S91) (v : Bool) (m1 m2 : List S78) (a x y : Int) (b0 : FitS l0) (b1 : FitS l1) (hl : l2.length ≤ 1048576) (hs : ∀ x ∈ l2, x.f0.size ≤ 1048576) (c1 : m1.length ≤ 1048576) (c2 : m2.length ≤ 1048576) :
    impl_EnvSet.f l0 l1 l2 v m1 m2 a x y = some (setV l0 l1 l2 v m1 m2 a x y) := by
  have hb : ∀ p q : Bool, (if p = true then some q else some false) = some (p && q) := by
    intro p q; cases p <;> rfl
  have key := @setB_len l0 l1 l2 v m1 m2 a x y
  unfold impl_EnvSet.f impl_EnvOk.f setV
  unfold setB at key ⊢
  rw [isRight_is _ _ _ b0 b1 hl hs, isEnv_is _ _ _ _ _ _ c1 c2]
  simp only [Option.bind_some]
  rw [hb]
  simp only [Option.bind_some]
  generalize (impl_Decl_isRight.ok l0 l1 l2 && impl_Decl_isEnv.ok l0 l2 v m1 m2) = p at key ⊢
  cases p with
  | false => rfl
  | true =>
    rw [if_pos rfl]
    cases v with
    | false => rfl
    | true =>
      have hw := Math.w64_id (x := (l0.length : Int) - 1) (by omega) (by have := b0.1; omega)
      unfold impl_size_string.f impl_within.f impl_IvOk.f
      simp only [Option.bind_some, if_true, Bool.true_and] at key ⊢
      rw [hw]
      by_cases h0 : 0 ≤ a
      · rw [if_pos h0]
        by_cases h1 : a ≤ (l0.length : Int) - 1
        · rw [decide_eq_true (p := 0 ≤ a ∧ a ≤ (l0.length : Int) - 1) ⟨h0, h1⟩] at key ⊢
          rw [decide_eq_true h1]
          simp only [Option.bind_some, if_true, Bool.true_and] at key ⊢
          by_cases h2 : x ≤ y
          · rw [decide_eq_true h2] at key ⊢
            obtain ⟨_, _, k3, k4⟩ := key rfl
            simp only [Option.bind_some, if_true]
            unfold impl_Env_set.f impl_Env_own.f impl_Interval.f
            rw [if_pos (by omega), if_pos (by omega)]
            simp only [Option.bind_some]
            rw [if_pos k3, if_pos k4]
            rfl
          · rw [decide_eq_false h2]; rfl
        · rw [decide_eq_false (p := 0 ≤ a ∧ a ≤ (l0.length : Int) - 1) (fun h => h1 h.2), decide_eq_false h1]; rfl
      · rw [if_neg h0, decide_eq_false (p := 0 ≤ a ∧ a ≤ (l0.length : Int) - 1) (fun h => h0 h.1)]; rfl
theorem specEnvSet_is (l0 l1 : List ByteArray) (l2 : List S91) (v : Bool) (m1 m2 : List S78) (a x y : Int) (b0 : FitS l0) (b1 : FitS l1) (hl : l2.length ≤ 1048576) (hs : ∀ x ∈ l2, x.f0.size ≤ 1048576) (c1 : m1.length ≤ 1048576) (c2 : m2.length ≤ 1048576) (k : Nat) (hk : 16800000 < k) :
    spec_EnvSet.f k l0 l1 l2 v m1 m2 a x y = some (setV l0 l1 l2 v m1 m2 a x y) := by
  have key := @setB_len l0 l1 l2 v m1 m2 a x y
  unfold spec_EnvSet.f setV
  unfold setB at key ⊢
  rw [specEnvOk_is _ _ _ _ _ _ b0 b1 hl hs c1 c2 _ hk]
  simp only [Option.bind_some]
  generalize (impl_Decl_isRight.ok l0 l1 l2 && impl_Decl_isEnv.ok l0 l2 v m1 m2) = p at key ⊢
  cases p with
  | false => rfl
  | true =>
    rw [if_pos rfl]
    cases v with
    | false => rfl
    | true =>
      have hw := Math.w64_id (x := (l0.length : Int) - 1) (by omega) (by have := b0.1; omega)
      unfold spec_l1In.f spec_IvOk.f
      simp only [Option.bind_some, if_true, Bool.true_and] at key ⊢
      rw [hw]
      by_cases h0 : 0 ≤ a
      · rw [if_pos h0]
        by_cases h1 : a ≤ (l0.length : Int) - 1
        · rw [decide_eq_true (p := 0 ≤ a ∧ a ≤ (l0.length : Int) - 1) ⟨h0, h1⟩] at key ⊢
          rw [decide_eq_true h1]
          simp only [Option.bind_some, if_true, Bool.true_and] at key ⊢
          by_cases h2 : x ≤ y
          · rw [decide_eq_true h2] at key ⊢
            obtain ⟨_, _, k3, k4⟩ := key rfl
            simp only [Option.bind_some, if_true]
            unfold spec_l7With.f spec_l6Copy.f
            simp only [Option.bind_some, List.length_nil, Nat.zero_add, List.nil_append]
            rw [if_pos (by omega), if_pos (by omega)]
            simp only [Option.bind_some]
            rw [if_pos k3, if_pos k4]
            rfl
          · rw [decide_eq_false h2]; rfl
        · rw [decide_eq_false (p := 0 ≤ a ∧ a ≤ (l0.length : Int) - 1) (fun h => h1 h.2), decide_eq_false h1]; rfl
      · rw [if_neg h0, decide_eq_false (p := 0 ≤ a ∧ a ≤ (l0.length : Int) - 1) (fun h => h0 h.1)]; rfl

theorem sameIvs_self (l : List S78) (hn : l.length ≤ 1000) (k : Nat) (hk : l.length < k) : laws_sameIvs.f k l l = some true := by
  have key : ∀ (d k : Nat) (i : Int), 0 ≤ i → i + d = l.length → d < k → laws_sameIvs.l0 k l l i = some true := by
    intro d
    induction d with
    | zero =>
      intro k i h0 hd hk
      obtain ⟨k, rfl⟩ : ∃ m, k = m + 1 := ⟨k - 1, by omega⟩
      rw [laws_sameIvs.l0, if_neg (by omega)]
    | succ d ih =>
      intro k i h0 hd hk
      obtain ⟨k, rfl⟩ : ∃ m, k = m + 1 := ⟨k - 1, by omega⟩
      rw [laws_sameIvs.l0, if_pos (by omega), if_pos h0, if_pos (by omega), if_neg (by simp), Math.w64_id (by omega) (by omega)]
      exact ih k (i + 1) (by omega) (by omega) (by omega)
  unfold laws_sameIvs.f
  rw [if_pos rfl]
  exact key l.length k 0 (by omega) (by omega) hk
theorem sameEnv_self (v : Bool) (m1 m2 : List S78) (h1 : m1.length ≤ 1000) (h2 : m2.length ≤ 1000) (k : Nat) (hk : 1000 < k) : laws_sameEnv.f k v m1 m2 v m1 m2 = some true := by
  unfold laws_sameEnv.f
  rw [if_pos (by simp), sameIvs_self m1 h1 k (by omega), Option.bind_some, if_pos rfl, sameIvs_self m2 h2 k (by omega), Option.bind_some]

/-- A code of bytes, and a place in it. -/
def St (l : List Int) (p : Int) : Prop := (∀ x ∈ l, 0 ≤ x ∧ x ≤ 255) ∧ l.length ≤ 1048576 ∧ 0 ≤ p ∧ p ≤ l.length
theorem rd_mem {xs : List Int} {i : Int} (h0 : 0 ≤ i) (h1 : i < xs.length) : rd xs i ∈ xs := by
  unfold rd
  rw [List.getD_eq_getElem?_getD, List.getElem?_eq_getElem (by omega), Option.getD_some]
  exact List.getElem_mem _
theorem w64_in (x : Int) : -9223372036854775808 ≤ wrap64 x ∧ wrap64 x ≤ 9223372036854775807 := by
  unfold wrap64; omega
theorem next_ok {l : List Int} {p : Int} (h : St l p) : ∃ v q, spec_l1Rd_next.f l p = some (v, q) ∧ (0 ≤ v ∧ v ≤ 255) ∧ St l q := by
  obtain ⟨hb, hn, h0, h1⟩ := h
  unfold spec_l1Rd_next.f
  by_cases c : p ≥ (l.length : Int)
  · rw [if_pos c]; exact ⟨0, p, rfl, by omega, hb, hn, h0, h1⟩
  · have e1 : wrap64 (p + 1) = p + 1 := Math.w64_id (by omega) (by omega)
    have e2 : wrap64 (p + 1 - 1) = p := by rw [Math.w64_id (by omega) (by omega)]; omega
    have hv := hb _ (rd_mem h0 (show p < (l.length : Int) by omega))
    rw [if_neg c, e1, e2, if_pos h0, if_pos (by omega), Math.w64_id (by omega) (by omega)]
    exact ⟨rd l p, p + 1, rfl, hv, hb, hn, by omega, by omega⟩
theorem below_ok {l : List Int} {p : Int} (h : St l p) {n : Int} (h1 : 1 < n) (h2 : n ≤ 65536) : ∃ v q, spec_l1Rd_below.f l p n = some (v, q) ∧ (0 ≤ v ∧ v < n) ∧ St l q := by
  unfold spec_l1Rd_below.f
  rw [if_neg (by omega)]
  by_cases c : n ≤ 256
  · obtain ⟨v, q, e, hv, hq⟩ := next_ok h
    rw [if_pos c, e]
    simp only [Option.bind_some]
    rw [if_neg (by omega), Int.tmod_eq_emod_of_nonneg hv.1]
    exact ⟨_, q, rfl, ⟨Int.emod_nonneg _ (by omega), Int.emod_lt_of_pos _ (by omega)⟩, hq⟩
  · obtain ⟨v, q, e, hv, hq⟩ := next_ok h
    obtain ⟨v2, q2, e2, hv2, hq2⟩ := next_ok hq
    rw [if_neg c, e]
    simp only [Option.bind_some]
    rw [e2]
    simp only [Option.bind_some]
    rw [if_neg (by omega), Math.w64_id (x := v * 256) (by omega) (by omega), Math.w64_id (by omega) (by omega), Int.tmod_eq_emod_of_nonneg (by omega)]
    exact ⟨_, q2, rfl, ⟨Int.emod_nonneg _ (by omega), Int.emod_lt_of_pos _ (by omega)⟩, hq2⟩

theorem once_ok {l : List Int} {p : Int} (h : St l p) {n : Int} (h1 : 1 < n) (h2 : n ≤ 65536) : ∃ b q, spec_l1Rd_once.f l p n = some (b, q) ∧ St l q := by
  obtain ⟨v, q, e, _, hq⟩ := below_ok h h1 h2
  unfold spec_l1Rd_once.f
  rw [e]
  exact ⟨_, q, rfl, hq⟩

theorem nm_size (l : List UInt8) : ∀ s ∈ spec_l1Rd_decl.names l, s.size ≤ 1 := by
  intro s hs
  unfold spec_l1Rd_decl.names at hs
  obtain ⟨c, _, rfl⟩ := List.mem_map.1 hs
  exact Nat.le_refl _
theorem nm_len (l : List UInt8) : (spec_l1Rd_decl.names l).length = l.length := by
  unfold spec_l1Rd_decl.names
  rw [List.length_map]
theorem decl_ok {l : List Int} {p : Int} (h : St l p) : ∃ (d fl : List ByteArray) (ar : List S91) (q : Int), spec_l1Rd_decl.f l p = some (d, fl, ar, q) ∧ (1 ≤ d.length ∧ d.length ≤ 4) ∧ fl.length ≤ 3 ∧ ar.length ≤ 1 ∧ (∀ s ∈ d, s.size ≤ 1) ∧ (∀ s ∈ fl, s.size ≤ 1) ∧ (∀ x ∈ ar, x.f0.size ≤ 1) ∧ St l q := by
  obtain ⟨a, q1, e1, ha, h1⟩ := below_ok h (n := 4) (by decide) (by decide)
  obtain ⟨b, q2, e2, hb, h2⟩ := below_ok h1 (n := 2) (by decide) (by decide)
  obtain ⟨c, q3, e3, h3⟩ := once_ok h2 (n := 3) (by decide) (by decide)
  have hf : ∃ (fl : List ByteArray) (z q4 : Int), (if c = true then (spec_l1Rd_below.f l q3 4).bind fun d => some ((spec_l1Rd_decl.names [98, 99, 102]).take d.1.toNat, d.1, d.2) else some ((spec_l1Rd_decl.names [98, 99, 102]).take (1 + b).toNat, 0, q3)) = some (fl, z, q4) ∧ fl.length ≤ 3 ∧ (∀ s ∈ fl, s.size ≤ 1) ∧ (0 ≤ z ∧ z < 4) ∧ St l q4 := by
    have hl (n : Nat) : ((spec_l1Rd_decl.names [98, 99, 102]).take n).length ≤ 3 := by
      rw [List.length_take, nm_len]; simp only [List.length_cons, List.length_nil]; omega
    have hs (n : Nat) : ∀ s ∈ (spec_l1Rd_decl.names [98, 99, 102]).take n, s.size ≤ 1 := fun s hs => nm_size _ s (List.mem_of_mem_take hs)
    cases c with
    | true =>
      obtain ⟨z, q4, e4, hz, h4⟩ := below_ok h3 (n := 4) (by decide) (by decide)
      rw [if_pos rfl, e4]
      exact ⟨_, z, q4, rfl, hl _, hs _, hz, h4⟩
    | false =>
      rw [if_neg (by decide)]
      exact ⟨_, 0, q3, rfl, hl _, hs _, by omega, h3⟩
  obtain ⟨fl, z, q4, e4, hf1, hf2, hz, h4⟩ := hf
  obtain ⟨m, q5, e5, h5⟩ := once_ok h4 (n := 2) (by decide) (by decide)
  have hr : ∃ (ar : List S91) (q6 : Int), (if m = true then (spec_l1Rd_below.f l q5 6).bind fun z => some ([(⟨⟨#[97]⟩, wrap64 (1 + z.1)⟩ : S91)], z.2) else some ([], q5)) = some (ar, q6) ∧ ar.length ≤ 1 ∧ (∀ x ∈ ar, x.f0.size ≤ 1) ∧ St l q6 := by
    cases m with
    | true =>
      obtain ⟨y, q6, e6, hy, h6⟩ := below_ok h5 (n := 6) (by decide) (by decide)
      rw [if_pos rfl, e6]
      refine ⟨_, q6, rfl, Nat.le_refl _, fun x hx => ?_, h6⟩
      rw [List.mem_singleton.1 hx]
      exact Nat.le_refl _
    | false =>
      rw [if_neg (by decide)]
      exact ⟨_, q5, rfl, Nat.zero_le _, fun x hx => (by cases hx), h5⟩
  obtain ⟨ar, q6, e6, hr1, hr2, h6⟩ := hr
  refine ⟨(spec_l1Rd_decl.names [120, 121, 105, 110, 107]).take (1 + a).toNat, fl, ar, q6, ?_, ?_, hf1, hr1, fun s hs => nm_size _ s (List.mem_of_mem_take hs), hf2, hr2, h6⟩
  · unfold spec_l1Rd_decl.f
    rw [e1, Option.bind_some, e2, Option.bind_some, e3, Option.bind_some, e4, Option.bind_some, e5, Option.bind_some, e6, Option.bind_some, if_pos ⟨ha.1, ha.2, hb.1, hb.2, hz.1, hz.2⟩]
  · rw [List.length_take, nm_len]; simp only [List.length_cons, List.length_nil]; omega

theorem or_u64 (x y : Int) : 0 ≤ Go.bits .or .u64 x y ∧ Go.bits .or .u64 x y < 18446744073709551616 := by
  have := bounds_u64 (wf_bits .or .u64 x y)
  omega
theorem word_loop {l : List Int} (d : Nat) : ∀ (k : Nat) (x i p : Int), St l p → (0 ≤ x ∧ x < 18446744073709551616) → i + d = 8 → 0 ≤ i → d < k →
    ∃ v q, spec_l1Rd_word.l0 k x i l p = some (v, q) ∧ (0 ≤ v ∧ v < 18446744073709551616) ∧ St l q ∧ ∀ k', d < k' → spec_l1Rd_word.l0 k' x i l p = some (v, q) := by
  induction d with
  | zero =>
    intro k x i p h hx hi h0 hk
    have key : ∀ k', 0 < k' → spec_l1Rd_word.l0 k' x i l p = some (x, p) := by
      intro k' hk'
      obtain ⟨k', rfl⟩ : ∃ m, k' = m + 1 := ⟨k' - 1, by omega⟩
      simp only [spec_l1Rd_word.l0]; rw [if_neg (by omega)]
    exact ⟨x, p, key k hk, hx, h, key⟩
  | succ d ih =>
    intro k x i p h hx hi h0 hk
    obtain ⟨v, q, e, hv, hq⟩ := next_ok h
    obtain ⟨r, q2, _, hr, hq2, all⟩ := ih (d + 1) (Go.bits .or .u64 (IntKind.u64.wrap (x * 256)) (IntKind.u64.wrap v)) (i + 1) q hq (or_u64 _ _) (by omega) (by omega) (by omega)
    have key : ∀ k', d + 1 < k' → spec_l1Rd_word.l0 k' x i l p = some (r, q2) := by
      intro k' hk'
      obtain ⟨k', rfl⟩ : ∃ m, k' = m + 1 := ⟨k' - 1, by omega⟩
      simp only [spec_l1Rd_word.l0]
      rw [if_pos (by omega), e]
      simp only [Option.bind_some]
      rw [Math.w64_id (by omega) (by omega)]
      exact all k' (by omega)
    exact ⟨r, q2, key k hk, hr, hq2, key⟩
theorem word_ok {l : List Int} {p : Int} (h : St l p) : ∃ v q, (∀ k, 9 ≤ k → spec_l1Rd_word.f k l p = some (v, q)) ∧ (0 ≤ v ∧ v < 18446744073709551616) ∧ St l q := by
  obtain ⟨v, q, _, hv, hq, all⟩ := word_loop 8 9 0 0 p h (by omega) (by omega) (by omega) (by omega)
  exact ⟨v, q, fun k hk => all k (by omega), hv, hq⟩

theorem shr_in {x : Int} (y : Int) (h : -9223372036854775808 ≤ x ∧ x ≤ 9223372036854775807) : -9223372036854775808 ≤ shr .i64 x y ∧ shr .i64 x y ≤ 9223372036854775807 := by
  unfold shr
  have hp : (0 : Int) < 2 ^ min y.toNat IntKind.i64.bits := Int.pow_pos (by decide)
  generalize (2 : Int) ^ min y.toNat IntKind.i64.bits = z at hp
  constructor
  · rw [Int.le_ediv_iff_mul_le hp]
    by_cases h0 : (0 : Int) ≤ x
    · have := Int.mul_nonneg (show (0 : Int) ≤ 9223372036854775808 by decide) (Int.le_of_lt hp)
      have e : -9223372036854775808 * z = -(9223372036854775808 * z) := Int.neg_mul _ _
      omega
    · have : (9223372036854775808 : Int) * 1 ≤ 9223372036854775808 * z := Int.mul_le_mul_of_nonneg_left (by omega) (by omega)
      have e : -9223372036854775808 * z = -(9223372036854775808 * z) := Int.neg_mul _ _
      omega
  · by_cases h0 : (0 : Int) ≤ x
    · have := Int.ediv_le_self z h0
      omega
    · have : x / z < 0 := Int.ediv_lt_of_lt_mul hp (by omega)
      omega
theorem num_ok {l : List Int} {p : Int} (h : St l p) : ∃ v q, (∀ k, 9 ≤ k → spec_l1Rd_num.f k l p = some (v, q)) ∧ (-9223372036854775808 ≤ v ∧ v ≤ 9223372036854775807) ∧ St l q := by
  unfold spec_l1Rd_num.f
  obtain ⟨v, q, e, hv, hq⟩ := below_ok h (n := 6) (by decide) (by decide)
  rw [e]
  simp only [Option.bind_some]
  by_cases c0 : v = 0
  · simp only [if_pos c0]
    obtain ⟨i, q2, e2, hi, hq2⟩ := below_ok hq (n := 10) (by decide) (by decide)
    rw [e2]
    simp only [Option.bind_some]
    rw [if_pos hi.1, if_pos (by simpa using hi.2)]
    refine ⟨_, q2, fun _ _ => rfl, ?_, hq2⟩
    have hm := rd_mem (xs := [(-9223372036854775808), (-9223372036854775807), 9223372036854775807, 9223372036854775806, (-1), 0, 1, 4294967296, (-4294967296), 3037000500]) hi.1 (by simpa using hi.2)
    generalize rd _ i = z at hm
    simp only [List.mem_cons, List.not_mem_nil, or_false] at hm
    omega
  · simp only [if_neg c0]
    by_cases c1 : v = 1
    · simp only [if_pos c1]
      obtain ⟨x, q2, e2, hx, hq2⟩ := word_ok hq
      exact ⟨_, q2, fun k hk => by rw [e2 k hk]; rfl, w64_in _, hq2⟩
    · simp only [if_neg c1]
      by_cases c2 : v = 2
      · simp only [if_pos c2]
        obtain ⟨x, q2, e2, hx, hq2⟩ := word_ok hq
        obtain ⟨y, q3, e3, hy, hq3⟩ := below_ok hq2 (n := 60) (by decide) (by decide)
        refine ⟨_, q3, fun k hk => by rw [e2 k hk]; simp only [Option.bind_some]; rw [e3]; simp only [Option.bind_some]; rw [if_pos (by rw [Math.uwrap]; omega)], shr_in _ (w64_in _), hq3⟩
      · simp only [if_neg c2]
        obtain ⟨y, q3, e3, hy, hq3⟩ := below_ok hq (n := 41) (by decide) (by decide)
        rw [e3]
        exact ⟨_, q3, fun _ _ => rfl, w64_in _, hq3⟩

theorem spec_NumAdd_is {a b : Int} (ha : -9223372036854775808 ≤ a ∧ a ≤ 9223372036854775807) (hb : -9223372036854775808 ≤ b ∧ b ≤ 9223372036854775807) :
    spec_NumAdd.f a b = some (Math.addV a b) := by
  unfold spec_NumAdd.f
  rw [if_pos ⟨ha, hb⟩]

theorem addV_in {a b : Int} (ha : -9223372036854775808 ≤ a ∧ a ≤ 9223372036854775807) (hb : -9223372036854775808 ≤ b ∧ b ≤ 9223372036854775807) : -9223372036854775808 ≤ (Math.addV a b).1 ∧ (Math.addV a b).1 ≤ 9223372036854775807 := by
  unfold Math.addV
  split
  · simp
  · split
    · simp
    · simp only; omega
theorem iv_ok {l : List Int} {p : Int} (h : St l p) : ∃ a b q, (∀ k, 10 ≤ k → spec_l1Rd_iv.f k l p = some (a, b, q)) ∧ (-9223372036854775808 ≤ a ∧ a ≤ 9223372036854775807) ∧ (-9223372036854775808 ≤ b ∧ b ≤ 9223372036854775807) ∧ St l q := by
  obtain ⟨a, q, e, ha, hq⟩ := num_ok h
  obtain ⟨c, q2, e2, hc, hq2⟩ := below_ok hq (n := 4) (by decide) (by decide)
  have key : ∀ t : Bool, ∃ b q, (∀ k, 10 ≤ k → spec_l1Rd_iv.j0 k a a t l q2 = some (a, b, q)) ∧ (-9223372036854775808 ≤ b ∧ b ≤ 9223372036854775807) ∧ St l q := by
    intro t
    cases t with
    | true =>
      obtain ⟨i, q3, e3, hi, hq3⟩ := below_ok hq2 (n := 30) (by decide) (by decide)
      by_cases g : (Math.addV a i).1 < a
      · refine ⟨a, q3, fun k hk => ?_, ha, hq3⟩
        obtain ⟨k, rfl⟩ : ∃ m, k = m + 1 := ⟨k - 1, by omega⟩
        simp only [spec_l1Rd_iv.j0, if_true]
        rw [e3]; simp only [Option.bind_some]; rw [spec_NumAdd_is ha (by omega)]; simp only [Option.bind_some]; rw [if_pos g]
      · refine ⟨(Math.addV a i).1, q3, fun k hk => ?_, addV_in ha (by omega), hq3⟩
        obtain ⟨k, rfl⟩ : ∃ m, k = m + 1 := ⟨k - 1, by omega⟩
        simp only [spec_l1Rd_iv.j0, if_true]
        rw [e3]; simp only [Option.bind_some]; rw [spec_NumAdd_is ha (by omega)]; simp only [Option.bind_some]; rw [if_neg g]
    | false =>
      refine ⟨a, q2, fun k hk => ?_, ha, hq2⟩
      obtain ⟨k, rfl⟩ : ∃ m, k = m + 1 := ⟨k - 1, by omega⟩
      simp only [spec_l1Rd_iv.j0]
      rw [if_neg (by decide), if_neg (Int.lt_irrefl a)]
  unfold spec_l1Rd_iv.f
  by_cases c0 : c = 0
  · obtain ⟨b, q3, e3, hb, hq3⟩ := num_ok hq2
    by_cases g : b < a
    · obtain ⟨o, q4, e4, hq4⟩ := once_ok hq3 (n := 12) (by decide) (by decide)
      cases o with
      | true =>
        refine ⟨a, b, q4, fun k hk => ?_, ha, hb, hq4⟩
        rw [e k (by omega)]; simp only [Option.bind_some]; rw [e2]; simp only [Option.bind_some]; rw [if_pos c0, e3 k (by omega)]; simp only [Option.bind_some]; rw [if_pos g, e4]; rfl
      | false =>
        refine ⟨b, a, q4, fun k hk => ?_, hb, ha, hq4⟩
        rw [e k (by omega)]; simp only [Option.bind_some]; rw [e2]; simp only [Option.bind_some]; rw [if_pos c0, e3 k (by omega)]; simp only [Option.bind_some]; rw [if_pos g, e4]; rfl
    · refine ⟨a, b, q3, fun k hk => ?_, ha, hb, hq3⟩
      rw [e k (by omega)]; simp only [Option.bind_some]; rw [e2]; simp only [Option.bind_some]; rw [if_pos c0, e3 k (by omega)]; simp only [Option.bind_some]; rw [if_neg g]
  · by_cases c1 : c = 1
    · obtain ⟨b, q3, e3, hb, hq3⟩ := key (c == 1)
      refine ⟨a, b, q3, fun k hk => ?_, ha, hb, hq3⟩
      rw [e k (by omega)]; simp only [Option.bind_some]; rw [e2]; simp only [Option.bind_some]; rw [if_neg c0, if_pos c1]; exact e3 k hk
    · obtain ⟨b, q3, e3, hb, hq3⟩ := key (c == 2)
      refine ⟨a, b, q3, fun k hk => ?_, ha, hb, hq3⟩
      rw [e k (by omega)]; simp only [Option.bind_some]; rw [e2]; simp only [Option.bind_some]; rw [if_neg c0, if_neg c1]; exact e3 k hk

theorem small_ok {l : List Int} {p : Int} (h : St l p) : ∃ a b q, (∀ k, 10 ≤ k → spec_l1Rd_small.f k l p = some (a, b, q)) ∧ St l q := by
  obtain ⟨o, q, e, hq⟩ := once_ok h (n := 6) (by decide) (by decide)
  unfold spec_l1Rd_small.f
  rw [e]
  simp only [Option.bind_some]
  cases o with
  | true =>
    obtain ⟨a, b, q2, e2, _, _, hq2⟩ := iv_ok hq
    refine ⟨mn a b, mx a b, q2, fun k hk => ?_, hq2⟩
    rw [if_pos rfl, e2 k hk]
    rfl
  | false =>
    obtain ⟨a, q2, e2, _, hq2⟩ := below_ok hq (n := 20) (by decide) (by decide)
    obtain ⟨b, q3, e3, _, hq3⟩ := below_ok hq2 (n := 9) (by decide) (by decide)
    refine ⟨wrap64 (a - 8), wrap64 (wrap64 (a - 8) + b), q3, fun k hk => ?_, hq3⟩
    rw [if_neg (by decide), e2]
    simp only [Option.bind_some]
    rw [e3]
    rfl
theorem env_l1 {l : List Int} (d fl : List ByteArray) (ar : List S91) (v : Bool) (m1 : List S78) (ha : ar.length ≤ 4) : ∀ (n : Nat) (x : Int) (m2 : List S78) (p : Int), St l p → 0 ≤ x → x + n = ar.length → m2.length + n ≤ 4 →
    ∃ m2' q, (∀ k, n + 12 ≤ k → spec_l1Rd_env.l1 k x l p d fl ar v m1 m2 = some (v, m1, m2', q)) ∧ m2'.length ≤ 4 ∧ St l q
  | 0, x, m2, p, h, hx, hn, hm => by
    refine ⟨m2, p, fun k hk => ?_, by omega, h⟩
    obtain ⟨k, rfl⟩ : ∃ m, k = m + 1 := ⟨k - 1, by omega⟩
    rw [spec_l1Rd_env.l1, if_neg (by omega)]
  | n + 1, x, m2, p, h, hx, hn, hm => by
    obtain ⟨a, b, q, e, hq⟩ := small_ok h
    obtain ⟨m2', q2, e2, hl, hq2⟩ := env_l1 d fl ar v m1 ha n (x + 1) (m2 ++ [⟨a, b⟩]) q hq (by omega) (by omega) (by simp; omega)
    refine ⟨m2', q2, fun k hk => ?_, hl, hq2⟩
    obtain ⟨k, rfl⟩ : ∃ m, k = m + 1 := ⟨k - 1, by omega⟩
    rw [spec_l1Rd_env.l1, if_pos (by omega), e k (by omega)]
    simp only [Option.bind_some]
    rw [if_pos (by omega), Math.w64_id (by omega) (by omega)]
    exact e2 k (by omega)
theorem env_l0 {l : List Int} (d fl : List ByteArray) (ar : List S91) (v : Bool) (hd : d.length ≤ 4) (ha : ar.length ≤ 4) : ∀ (n : Nat) (x : Int) (m1 : List S78) (p : Int), St l p → 0 ≤ x → x + n = d.length → m1.length + n ≤ 4 →
    ∃ m1' m2' q, (∀ k, n + 20 ≤ k → spec_l1Rd_env.l0 k x l p d fl ar v m1 = some (v, m1', m2', q)) ∧ m1'.length ≤ 4 ∧ m2'.length ≤ 4 ∧ St l q
  | 0, x, m1, p, h, hx, hn, hm => by
    obtain ⟨m2', q, e, hl, hq⟩ := env_l1 d fl ar v m1 ha ar.length 0 [] p h (by omega) (by omega) (by simpa using ha)
    refine ⟨m1, m2', q, fun k hk => ?_, by omega, hl, hq⟩
    obtain ⟨k, rfl⟩ : ∃ m, k = m + 1 := ⟨k - 1, by omega⟩
    rw [spec_l1Rd_env.l0, if_neg (by omega)]
    exact e k (by omega)
  | n + 1, x, m1, p, h, hx, hn, hm => by
    obtain ⟨a, b, q, e, hq⟩ := small_ok h
    obtain ⟨m1', m2', q2, e2, hl, hl2, hq2⟩ := env_l0 d fl ar v hd ha n (x + 1) (m1 ++ [⟨a, b⟩]) q hq (by omega) (by omega) (by simp; omega)
    refine ⟨m1', m2', q2, fun k hk => ?_, hl, hl2, hq2⟩
    obtain ⟨k, rfl⟩ : ∃ m, k = m + 1 := ⟨k - 1, by omega⟩
    rw [spec_l1Rd_env.l0, if_pos (by omega), e k (by omega)]
    simp only [Option.bind_some]
    rw [if_pos (by omega), Math.w64_id (by omega) (by omega)]
    exact e2 k (by omega)
theorem env_ok {l : List Int} {p : Int} (h : St l p) (d fl : List ByteArray) (ar : List S91) (hd : d.length ≤ 4) (ha : ar.length ≤ 4) :
    ∃ v m1 m2 q, (∀ k, 40 ≤ k → spec_l1Rd_env.f k l p d fl ar = some (v, m1, m2, q)) ∧ m1.length ≤ 4 ∧ m2.length ≤ 4 ∧ St l q := by
  obtain ⟨o, q, e, hq⟩ := once_ok h (n := 16) (by decide) (by decide)
  unfold spec_l1Rd_env.f
  rw [e]
  simp only [Option.bind_some]
  cases o with
  | true => exact ⟨false, [], [], q, fun k _ => rfl, by simp, by simp, hq⟩
  | false =>
    obtain ⟨m1, m2, q2, e2, h1, h2, hq2⟩ := env_l0 d fl ar true hd ha d.length 0 [] q hq (by omega) (by omega) (by simpa using hd)
    refine ⟨true, m1, m2, q2, fun k hk => ?_, h1, h2, hq2⟩
    rw [if_neg (by decide)]
    exact e2 k (by omega)
theorem hurtEnv_ok {l : List Int} {p : Int} (h : St l p) (v : Bool) (m1 m2 : List S78) (h1 : m1.length ≤ 4) (h2 : m2.length ≤ 4) :
    ∃ v' m1' m2' q, spec_l1Rd_hurtEnv.f l p v m1 m2 = some (v', m1', m2', q) ∧ m1'.length ≤ 5 ∧ m2'.length ≤ 4 ∧ St l q := by
  obtain ⟨c, q, e, hc, hq⟩ := below_ok h (n := 24) (by decide) (by decide)
  unfold spec_l1Rd_hurtEnv.f
  rw [e]
  simp only [Option.bind_some]
  by_cases c0 : c = 0
  · rw [if_pos c0]; exact ⟨_, _, _, q, rfl, by omega, h2, hq⟩
  rw [if_neg c0]
  by_cases c1 : c = 1
  · rw [if_pos c1, if_pos (by omega)]; exact ⟨_, _, _, q, rfl, by simp; omega, h2, hq⟩
  rw [if_neg c1]
  by_cases c2 : c = 2
  · rw [if_pos c2]
    by_cases g : (m1.length : Int) > 0
    · rw [if_pos g, if_pos (by omega)]; exact ⟨_, _, _, q, rfl, by rw [List.length_set]; omega, h2, hq⟩
    · rw [if_neg g]; exact ⟨_, _, _, q, rfl, by omega, h2, hq⟩
  · rw [if_neg c2]; exact ⟨_, _, _, q, rfl, by omega, h2, hq⟩

theorem near_ok {l : List Int} {p : Int} (h : St l p) {lo hi : Int} (h1 : -9223372036854775808 ≤ lo ∧ lo ≤ 9223372036854775807) (h2 : -9223372036854775808 ≤ hi ∧ hi ≤ 9223372036854775807) (h3 : hi - lo < 18446744073709551615) :
    ∃ v q, (∀ k, 10 ≤ k → spec_l1Rd_near.f k l p lo hi = some (v, q)) ∧ (-9223372036854775808 ≤ v ∧ v ≤ 9223372036854775807) ∧ St l q := by
  unfold spec_l1Rd_near.f
  obtain ⟨c, q, e, hc, hq⟩ := below_ok h (n := 8) (by decide) (by decide)
  rw [e]
  simp only [Option.bind_some]
  by_cases c0 : c = 0
  · simp only [if_pos c0]; exact ⟨lo, q, fun _ _ => rfl, h1, hq⟩
  · simp only [if_neg c0]
    by_cases c1 : c = 1
    · simp only [if_pos c1]; exact ⟨hi, q, fun _ _ => rfl, h2, hq⟩
    · simp only [if_neg c1]
      by_cases g : hi < lo
      · simp only [if_pos g]; exact ⟨lo, q, fun _ _ => rfl, h1, hq⟩
      · simp only [if_neg g]
        obtain ⟨x, q2, e2, hx, hq2⟩ := word_ok hq
        have hw : IntKind.u64.wrap (wrap64 ((wrap64 (hi - lo)) + 1)) = hi - lo + 1 := by
          rw [Math.uwrap]; unfold wrap64; omega
        refine ⟨_, q2, fun k hk => ?_, w64_in (lo + (wrap64 (Int.tmod (x / 2) (hi - lo + 1)))), hq2⟩
        rw [e2 k (by omega)]
        simp only [Option.bind_some]
        rw [hw, if_neg (by omega)]

theorem off_ok {l : List Int} {p : Int} (h : St l p) {lo hi : Int} (h1 : -9223372036854775808 ≤ lo ∧ lo ≤ 9223372036854775807) (h2 : -9223372036854775808 ≤ hi ∧ hi ≤ 9223372036854775807) (h3 : hi - lo < 18446744073709551615) :
    ∃ v q, (∀ k, 10 ≤ k → spec_l1Rd_off.f k l p lo hi = some (v, q)) ∧ (-9223372036854775808 ≤ v ∧ v ≤ 9223372036854775807) ∧ St l q := by
  unfold spec_l1Rd_off.f
  obtain ⟨o, q, e, hq⟩ := once_ok h (n := 24) (by decide) (by decide)
  rw [e]
  simp only [Option.bind_some]
  cases o with
  | true =>
    obtain ⟨i, q2, e2, hi2, hq2⟩ := below_ok hq (n := 4) (by decide) (by decide)
    simp only [if_true]
    rw [e2]
    simp only [Option.bind_some]
    rw [if_pos hi2.1, if_pos (by simpa using hi2.2)]
    refine ⟨_, q2, fun _ _ => rfl, ?_, hq2⟩
    have hm := rd_mem (xs := [wrap64 (lo - 1), wrap64 (hi + 1), (-9223372036854775808), 9223372036854775807]) hi2.1 (by simpa using hi2.2)
    generalize rd _ i = z at hm
    simp only [List.mem_cons, List.not_mem_nil, or_false] at hm
    rcases hm with rfl | rfl | rfl | rfl
    · exact w64_in _
    · exact w64_in _
    · decide
    · decide
  | false =>
    obtain ⟨v, q2, e2, hv, hq2⟩ := near_ok hq h1 h2 h3
    refine ⟨v, q2, fun k hk => ?_, hv, hq2⟩
    rw [if_neg (by decide), e2 k hk]; rfl

theorem set_loop (v : Nat) (x y : Int) (m1 m2 : List S78) (hv : v < m1.length) (h1 : m1.length ≤ 1000) (h2 : m2.length ≤ 1000) : ∀ (d i k : Nat), i + d = m1.length → d + 1001 < k → laws_FnSet.l0 k (v : Int) (i : Int) true m1 m2 x y true (m1.set v ⟨x, y⟩) m2 = some true := by
  have hl : (m1.set v (⟨x, y⟩ : S78)).length = m1.length := List.length_set
  intro d
  induction d with
  | zero =>
    intro i k hi hk
    obtain ⟨k, rfl⟩ : ∃ m, k = m + 1 := ⟨k - 1, by omega⟩
    rw [laws_FnSet.l0, hl, if_neg (by omega), if_pos (by omega), if_pos (by omega), rd78 _ v (by rw [hl]; exact hv)]
    rw [List.getElem_set_self, if_pos (by simp), sameIvs_self m2 h2 k (by omega)]
    simp
  | succ d ih =>
    intro i k hi hk
    obtain ⟨k, rfl⟩ : ∃ m, k = m + 1 := ⟨k - 1, by omega⟩
    have hw := Math.w64_id (x := (i : Int) + 1) (by omega) (by omega)
    have hs := ih (i + 1) k (by omega) (by omega)
    rw [show ((i + 1 : Nat) : Int) = (i : Int) + 1 by omega] at hs
    rw [laws_FnSet.l0, hl, if_pos (by omega)]
    by_cases hiv : i = v
    · rw [if_pos (by omega), hw]
      exact hs
    · rw [if_neg (by omega), if_pos (by omega), if_pos (by omega), rd78 _ i (by rw [hl]; omega), rd78 m1 i (by omega), List.getElem_set_ne (fun e => hiv e.symm), if_neg (by simp), hw]
      exact hs
theorem FnSet (l0 : List Int) (b0 : ∀ x ∈ l0, 0 ≤ x ∧ x ≤ 255) : ∃ k, laws_FnSet.f k l0 = some true := by
  refine ⟨16800010, ?_⟩
  unfold laws_FnSet.f laws_big.f
  simp only [Option.bind_some]
  by_cases hn : (l0.length : Int) > 1048576
  · rw [if_pos (by simpa using hn)]
  · have h0 : St l0 0 := ⟨b0, by omega, by omega, by omega⟩
    obtain ⟨d, fl, ar, q, e, hd, hf, ha, sd, sf, sa, hq⟩ := decl_ok h0
    obtain ⟨v1, n1, n2, q2, e2, hn1, hn2, hq2⟩ := env_ok hq d fl ar hd.2 (by omega)
    obtain ⟨v, m1, m2, q3, e3, hm1, hm2, hq3⟩ := hurtEnv_ok hq2 v1 n1 n2 hn1 hn2
    have hw := Math.w64_id (x := (d.length : Int) - 1) (by omega) (by omega)
    obtain ⟨a, q4, e4, hva, hq4⟩ := off_ok hq3 (lo := 0) (hi := (d.length : Int) - 1) (by decide) (by omega) (by omega)
    obtain ⟨x, y, q5, e5, _, _, hq5⟩ := iv_ok hq4
    have ed : spec_DrawEnvSet.f 16800010 l0 = some (d, fl, ar, v, m1, m2, a, x, y) := by
      unfold spec_DrawEnvSet.f spec_l1Open.f
      simp only [Option.bind_some]
      rw [e]
      simp only [Option.bind_some]
      rw [e2 _ (by omega)]
      simp only [Option.bind_some]
      rw [e3]
      simp only [Option.bind_some]
      rw [hw, e4 _ (by omega)]
      simp only [Option.bind_some]
      rw [e5 _ (by omega)]
      rfl
    have f0 : FitS d := ⟨by omega, fun s hs => by have := sd s hs; omega⟩
    have f1 : FitS fl := ⟨by omega, fun s hs => by have := sf s hs; omega⟩
    have f2 : ∀ x ∈ ar, x.f0.size ≤ 1048576 := fun s hs => by have := sa s hs; omega
    rw [if_neg (by simpa using hn), ed]
    simp only [Option.bind_some]
    rw [implEnvSet_is _ _ _ _ _ _ _ _ _ f0 f1 (by omega) f2 (by omega) (by omega), specEnvSet_is _ _ _ _ _ _ _ _ _ f0 f1 (by omega) f2 (by omega) (by omega) _ (by omega)]
    simp only [Option.bind_some]
    have hz : (setV d fl ar v m1 m2 a x y).2.1.length ≤ 1000 ∧ (setV d fl ar v m1 m2 a x y).2.2.length ≤ 1000 := by
      unfold setV
      split
      · exact ⟨by show (m1.set a.toNat (⟨x, y⟩ : S78)).length ≤ 1000; rw [List.length_set]; omega, by show m2.length ≤ 1000; omega⟩
      · exact ⟨by simp, by simp⟩
    rw [sameEnv_self _ _ _ hz.1 hz.2 _ (by omega)]
    simp only [Option.bind_some, if_true]
    rw [laws_FnSet.j0]
    by_cases hb : setB d fl ar v m1 m2 a x y = true
    · obtain ⟨hv, hml, ha0, ha1⟩ := setB_len hb
      subst hv
      obtain ⟨n, rfl⟩ : ∃ n : Nat, a = n := ⟨a.toNat, by omega⟩
      unfold setV
      rw [if_pos hb, if_neg (show ¬ (!true) = true by decide)]
      exact set_loop n x y m1 m2 (by omega) (by omega) (by omega) m1.length 0 _ (by omega) (by omega)
    · rw [specEnvSet_is _ _ _ _ _ _ _ _ _ f0 f1 (by omega) f2 (by omega) (by omega) _ (by omega)]
      simp only [Option.bind_some]
      rw [sameEnv_self _ _ _ hz.1 hz.2 _ (by omega)]
      have : (setV d fl ar v m1 m2 a x y).1 = false := by unfold setV; rw [if_neg hb]
      rw [this]
      rfl

end Go.Proofs.YtcomagipdbdglaaDoor.PureFnSet
