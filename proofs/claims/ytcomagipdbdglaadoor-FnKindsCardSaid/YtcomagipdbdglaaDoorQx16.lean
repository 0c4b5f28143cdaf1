-- Contracts of the program's functions, each with the plain function that it computes.
import Derived.Test.YtcomagipdbdglaaDoorQx0
import Derived.Test.YtcomagipdbdglaaDoorQx1
import Derived.Test.YtcomagipdbdglaaDoorQx12
import Derived.Test.YtcomagipdbdglaaDoorQx13
import Derived.Test.YtcomagipdbdglaaDoorQx14
import Derived.Test.YtcomagipdbdglaaDoorQx15
namespace Go.Proofs.YtcomagipdbdglaaDoor.Q
open Go.RowKit Go.Proofs.YtcomagipdbdglaaDoorW.PrintWords Go.Proofs.YtcomagipdbdglaaDoorW.PrintLast Go.Proofs.YtcomagipdbdglaaDoorW.PrintMore
attribute [local go_sem] max2_int min2_int max_two min_two max_three min_three max_four min_four   -- for this text's walks alone
set_option linter.unusedVariables false
set_option linter.unusedSimpArgs false

/-! ### impl_Decl_kindOf: function 86 -/
/-- The closure of areAll: not what it was made of. -/
theorem impl_Decl_kindOf.closure (D : Value) (q : Bool) (v0 v1 : Value) (B : Nat) (W : World) (hB : B < W.heap.size) (hc : W.cell? ⟨B, 0, none⟩ = some (.func (.func 131) #[D] #[]))
  (hE : ∀ W', Below W.heap.size W W' → Calls Tryd.prog 131 #[D, .agg #[v0, v1]] W' fun e w' => e = .returned (.bool q) ∧ Below W'.heap.size W' w') :
  Calls Tryd.prog 157 #[.agg #[v0, v1], .pointer (some ⟨B, 0, none⟩)] W fun e w' => e = .returned (.bool (!q)) ∧ Below W.heap.size W w' := by
 have eg : ∀ args w, (callFunc 131 args).run Tryd.prog w = .ok (.enter 131 args) w := enters_of Tryd.func131 (by kernel_rfl) rfl
 have hne : B ≠ W.heap.size := by omega
 have HE := Aside0.mk hE
 clear hE
 go_enter Tryd.func157, Tryd.ntmps157
 go_wp2_with fail
 refine (HE.out _ ((Below.refl _ W).alloc (Nat.le_refl _) _)).mono ?_
 rintro e w1 ⟨rfl, hb⟩
 have HB := Aside0.mk hb
 clear hb
 go_wp2
 go_ret
 exact ⟨rfl, ((Below.refl _ W).alloc (Nat.le_refl _) _).trans (HB.out.mono (by simp))⟩
set_option maxHeartbeats 2000000 in
theorem impl_Decl_kindOf.index (p : S86 → Bool) (g : Nat) (lb : Array Value) (eg : ∀ args w, (callFunc g args).run Tryd.prog w = .ok (.enter g args) w) (A : Option Addr) (c : Nat) (l : List (S86)) (w : World)
  (hp : ∀ (W : World) (x : S86), Below w.heap.size w W → Calls Tryd.prog g (#[.agg #[.int .i64 x.f0, .int .i64 x.f1]] ++ lb) W fun e w' => e = .returned (.bool (p x)) ∧ Below w.heap.size w w')
  (hr : Kd.C k86 w A l.length l) (hl : l.length ≤ 40) :
  Calls Tryd.prog 166 #[.slice A l.length c, .func (.func g) #[] lb] w fun e w' => ∃ n : Int, e = .returned (.int .i64 n) ∧ (decide (0 ≤ n) = l.any p) ∧ Below w.heap.size w w' := by
 have HP := Aside0.mk hp
 have HR := Aside0.mk hr
 clear hp hr
 go_enter Tryd.func166, Tryd.ntmps166
 go_wp2
 go_loopg [5, 8] l.length (fun gg _ s8 wr => ∃ kk : Nat, kk ≤ l.length ∧ l.length - kk ≤ gg ∧ s8 = .int .i64 kk ∧ Aside0 (Below w.heap.size w wr) ∧ Aside0 ((l.take kk).any p = false))
 case atStart => exact ⟨0, Nat.zero_le _, by omega, rfl, ⟨Below.refl _ w⟩, ⟨by simp⟩⟩
 case round =>
  obtain ⟨kk, hkk, hg, rfl, BW, AN⟩ := hrel
  by_cases hlt : kk < l.length
  ·obtain ⟨ad, rfl, y0, y1⟩ := at_T86 HR.out (kk : Int) (by omega) (by omega)
   have z0 := (BW.out.cell (World.block_lt_of_cell? w _ y0)).trans y0
   have z1 := (BW.out.cell (World.block_lt_of_cell? w _ y1)).trans y1
   simp only [Int.toNat_natCast] at z0 z1
   clear y0 y1
   have e : (rd_T86 l (kk : Int)) = l[kk] := by unfold rd_T86; simp [List.getD_eq_getElem?_getD, hlt]
   rw [e] at z0 z1
   clear e
   have hcall := HP.out wr l[kk] BW.out
   have ht : (l.take (kk + 1)).any p = p l[kk] := by rw [List.take_succ_eq_append_getElem hlt, List.any_append, AN.out]; simp
   have hsplit : l.any p = ((l.take (kk + 1)).any p || (l.drop (kk + 1)).any p) := by rw [← List.any_append, List.take_append_drop]
   have HT := Aside0.mk ht
   have HS := Aside0.mk hsplit
   clear ht hsplit
   generalize l[kk] = x at z0 z1 hcall HT
   cases hq : p x with
   | true =>
    rw [hq] at hcall
    have HQ := Aside0.mk hq
    clear hq
    go_wp2_with (go_at_fn g; refine hcall.mono ?_; rintro e w' ⟨rfl, hb'⟩)
    go_ret
    exact ⟨_, rfl, by rw [HS.out, HT.out, HQ.out]; simp, hb'⟩
   | false =>
    rw [hq] at hcall
    have HQ := Aside0.mk hq
    clear hq
    go_wp2_with (go_at_fn g; refine hcall.mono ?_; rintro e w' ⟨rfl, hb'⟩)
    go_roundg (l.length - (kk + 1))
    case measure => omega
    case rel => exact ⟨kk + 1, by omega, by omega, by go_num, ⟨hb'⟩, ⟨by rw [HT.out, HQ.out]⟩⟩
  ·have : kk = l.length := by omega
   subst this
   have HA := AN
   have HB := BW
   clear AN BW
   go_wp2
   go_ret
   exact ⟨_, rfl, by have := HA.out; rw [List.take_length] at this; rw [this]; simp, HB.out⟩
theorem impl_Decl_kindOf.contains (p : S86 → Bool) (g : Nat) (lb : Array Value) (eg : ∀ args w, (callFunc g args).run Tryd.prog w = .ok (.enter g args) w) (A : Option Addr) (c : Nat) (l : List (S86)) (w : World)
  (hp : ∀ (W : World) (x : S86), Below w.heap.size w W → Calls Tryd.prog g (#[.agg #[.int .i64 x.f0, .int .i64 x.f1]] ++ lb) W fun e w' => e = .returned (.bool (p x)) ∧ Below w.heap.size w w')
  (hr : Kd.C k86 w A l.length l) (hl : l.length ≤ 40) :
  Calls Tryd.prog 156 #[.slice A l.length c, .func (.func g) #[] lb] w fun e w' => e = .returned (.bool (l.any p)) ∧ Below w.heap.size w w' := by
 have HI := Aside0.mk (impl_Decl_kindOf.index p g lb eg A c l w hp hr hl)
 clear hp hr
 go_enter Tryd.func156, Tryd.ntmps156
 go_wp2_with fail
 refine HI.out.mono ?_
 rintro e w1 ⟨n, rfl, hn, hb⟩
 have HN := Aside0.mk hn
 have HB := Aside0.mk hb
 clear hn hb
 by_cases h : 0 ≤ n
 all_goals
  go_wp2
  go_ret
  exact ⟨by rw [← HN.out]; simp [h], HB.out⟩
def impl_Decl_kindOf.tokB (l0 : List ByteArray) (l1 : List ByteArray) (l2 : List S91) (x : S86) : Bool :=
 if x.f0 = 1 then decide (0 ≤ x.f1 ∧ x.f1 ≤ 999999999999999999) else if x.f0 = 2 then decide (0 ≤ x.f1 ∧ x.f1 ≤ (l0.length : Int) - 1) else if x.f0 = 3 then decide (0 ≤ x.f1 ∧ x.f1 ≤ (l1.length : Int) - 1) else if x.f0 = 6 then decide (0 ≤ x.f1 ∧ x.f1 ≤ (l2.length : Int) - 1) else decide (4 ≤ x.f0 ∧ x.f0 ≤ 21) && decide (x.f1 = 0)
theorem impl_Decl_kindOf.tok_is (l0 : List ByteArray) (l1 : List ByteArray) (l2 : List S91) (x : S86) (h : l0.length < 4398046511104 ∧ l1.length < 4398046511104 ∧ l2.length < 4398046511104) : impl_Decl_isTok.f l0 l1 l2 x.f0 x.f1 = some (impl_Decl_kindOf.tokB l0 l1 l2 x) := by
 have w (n : Nat) (hn : n < 4398046511104) : wrap64 ((n : Int) - 1) = (n : Int) - 1 := by unfold wrap64; omega
 have hw : ∀ a b : Int, impl_within.f x.f1 a b = some (decide (a ≤ x.f1 ∧ x.f1 ≤ b)) := by
  intro a b
  unfold impl_within.f
  by_cases h1 : a ≤ x.f1 <;> by_cases h2 : x.f1 ≤ b <;> simp [h1, h2]
 have hw0 : ∀ a b : Int, impl_within.f x.f0 a b = some (decide (a ≤ x.f0 ∧ x.f0 ≤ b)) := by
  intro a b
  unfold impl_within.f
  by_cases h1 : a ≤ x.f0 <;> by_cases h2 : x.f0 ≤ b <;> simp [h1, h2]
 unfold impl_Decl_isTok.f impl_Decl_kindOf.tokB impl_size_string.f impl_Arr.f
 simp only [Option.bind_some, hw, hw0, w _ h.1, w _ h.2.1, w _ h.2.2]
 by_cases h1 : x.f0 = 1
 ·rw [if_pos h1, if_pos h1]
 rw [if_neg h1, if_neg h1]
 by_cases h2 : x.f0 = 2
 ·rw [if_pos h2, if_pos h2]
 rw [if_neg h2, if_neg h2]
 by_cases h3 : x.f0 = 3
 ·rw [if_pos h3, if_pos h3]
 rw [if_neg h3, if_neg h3]
 by_cases h6 : x.f0 = 6
 ·rw [if_pos h6, if_pos h6]
 rw [if_neg h6, if_neg h6]
 by_cases h4 : 4 ≤ x.f0 ∧ x.f0 ≤ 21
 ·rw [decide_eq_true h4, if_pos rfl]
  by_cases h0 : x.f1 = 0 <;> simp [h0]
 ·rw [decide_eq_false h4, if_neg (by decide)]
  rfl
theorem impl_Decl_kindOf.all (A0_0 : Option Addr) (c0_0 : Nat) (l0_0 : List ByteArray) (A0_1 : Option Addr) (c0_1 : Nat) (l0_1 : List ByteArray) (A0_2 : Option Addr) (c0_2 : Nat) (l0_2 : List S91) (A1 : Option Addr) (c1 : Nat) (l1 : List S86) (w : World) (hr0_0 : Kd.C Kd.string w A0_0 l0_0.length l0_0) (hc0_0 : l0_0.length ≤ c0_0) (hr0_1 : Kd.C Kd.string w A0_1 l0_1.length l0_1) (hc0_1 : l0_1.length ≤ c0_1) (hr0_2 : Kd.C k91 w A0_2 l0_2.length l0_2) (hc0_2 : l0_2.length ≤ c0_2) (hz : l0_0.length < 4398046511104 ∧ l0_1.length < 4398046511104 ∧ l0_2.length < 4398046511104) (hr : Kd.C k86 w A1 l1.length l1) (hl : l1.length ≤ 40) :
  Calls Tryd.prog 130 #[.slice A1 l1.length c1, .func (.func 131) #[.agg #[.slice A0_0 l0_0.length c0_0, .slice A0_1 l0_1.length c0_1, .slice A0_2 l0_2.length c0_2]] #[]] w fun e w' => e = .returned (.bool (l1.all (impl_Decl_kindOf.tokB l0_0 l0_1 l0_2))) ∧ Below w.heap.size w w' := by
 have eg : ∀ args w, (callFunc 157 args).run Tryd.prog w = .ok (.enter 157 args) w := enters_of Tryd.func157 (by kernel_rfl) rfl
 have hb0 : Below w.heap.size w (w.alloc (.cells #[.func (.func 131) #[.agg #[.slice A0_0 l0_0.length c0_0, .slice A0_1 l0_1.length c0_1, .slice A0_2 l0_2.length c0_2]] #[]] 158)) := (Below.refl _ w).alloc (Nat.le_refl _) _
 have HC := Aside0.mk (impl_Decl_kindOf.contains (fun x => !impl_Decl_kindOf.tokB l0_0 l0_1 l0_2 x) 157 #[.pointer (some ⟨w.heap.size, 0, none⟩)] eg A1 c1 l1 (w.alloc (.cells #[.func (.func 131) #[.agg #[.slice A0_0 l0_0.length c0_0, .slice A0_1 l0_1.length c0_1, .slice A0_2 l0_2.length c0_2]] #[]] 158))
  (fun W x hb => (impl_Decl_kindOf.closure (.agg #[.slice A0_0 l0_0.length c0_0, .slice A0_1 l0_1.length c0_1, .slice A0_2 l0_2.length c0_2]) (impl_Decl_kindOf.tokB l0_0 l0_1 l0_2 x) (.int .i64 x.f0) (.int .i64 x.f1) w.heap.size W (by have := hb.size; simp at this; omega) ((hb.cell (p := ⟨w.heap.size, 0, none⟩) (by simp)).trans (by simp))
   (fun W' hb' => impl_Decl_isTok.calls A0_0 c0_0 l0_0 A0_1 c0_1 l0_1 A0_2 c0_2 l0_2 x.f0 x.f1 _ W' (Kd.C_below (Kd.C_below (Kd.C_below hr0_0 hb0) hb) hb') hc0_0 (Kd.C_below (Kd.C_below (Kd.C_below hr0_1 hb0) hb) hb') hc0_1 (Kd.C_below (Kd.C_below (Kd.C_below hr0_2 hb0) hb) hb') hc0_2 (impl_Decl_kindOf.tok_is l0_0 l0_1 l0_2 x hz))).mono fun e w' h => ⟨h.1, below_then hb hb.size h.2⟩)
  (Kd.C_below hr hb0) hl)
 have HB0 := Aside0.mk hb0
 clear hb0 hr hr0_0 hr0_1 hr0_2
 go_enter Tryd.func130, Tryd.ntmps130
 go_wp2_with fail
 refine HC.out.mono ?_
 rintro e w1 ⟨rfl, hb⟩
 have HB := Aside0.mk hb
 clear hb
 go_wp2
 go_ret
 exact ⟨by rw [List.any_eq_not_all_not]; simp, below_then HB0.out (by simp) HB.out⟩
theorem impl_Decl_kindOf.C_drop {w : World} {ad : Addr} {xs : List Int} {r : Nat} (h : Kd.C (Kd.int .i64) w (some ad) xs.length xs) (hr : r ≤ xs.length) : Kd.C (Kd.int .i64) w (some (ad.add r)) (xs.drop r).length (xs.drop r) := by
 refine ⟨rfl, by have := h.2.1; simp; omega, fun hp => ⟨ad.add r, rfl, fun j q hj => ?_⟩⟩
 obtain ⟨ad', e, hc⟩ := h.2.2 (by simp at hp; omega)
 cases e
 rw [List.getElem?_drop] at hj
 obtain ⟨c, hl, hk, hcell⟩ := hc (r + j) q hj
 refine ⟨c, hl, hk, fun i u hu => ?_⟩
 have := hcell i u hu
 rw [Addr.add_add, show r + (j * (Kd.int .i64).sz + i) = (r + j) * (Kd.int .i64).sz + i by show r + (j * 1 + i) = (r + j) * 1 + i; omega]
 exact this
theorem impl_Decl_kindOf.C_from {w : World} {Ap A : Option Addr} {xs : List Int} {r c : Nat} (h : Kd.C (Kd.int .i64) w Ap xs.length xs) (hc : xs.length ≤ c) (hr : r ≤ xs.length) (hA : A = if c = r then Ap else Ap.map (·.add r)) : Kd.C (Kd.int .i64) w A (xs.drop r).length (xs.drop r) := by
 by_cases hl : xs.length = r
 ·refine ⟨rfl, by simp; omega, fun hp => absurd hp (by simp; omega)⟩
 ·have hcr : c ≠ r := by omega
  rw [if_neg hcr] at hA
  obtain ⟨ad, e, hx⟩ := h.2.2 (by omega)
  subst e
  subst hA
  exact impl_Decl_kindOf.C_drop h hr
theorem impl_Decl_kindOf.equal_l (a b : List Int) (hl : a.length = b.length) (hb : a.length ≤ 2) : ∀ (k : Nat) (j : Nat), j ≤ a.length → a.length - j < k → slices_Equal_int64_int64.l0 k a b (a.length : Int) (j : Int) = some (decide (a.drop j = b.drop j)) := by
 intro k
 induction k with
 | zero => intro j _ h; omega
 | succ k ih =>
  intro j hj hk
  unfold slices_Equal_int64_int64.l0
  by_cases hlt : j < a.length
  ·rw [if_pos (by omega), if_pos (by omega), if_pos (by omega), if_pos (by omega)]
   have hlb : j < b.length := by omega
   have ea : rd a (j : Int) = a[j] := by simp [rd, List.getD_eq_getElem?_getD, hlt]
   have eb : rd b (j : Int) = b[j] := by simp [rd, List.getD_eq_getElem?_getD, hlb]
   rw [ea, eb, List.drop_eq_getElem_cons hlt, List.drop_eq_getElem_cons hlb]
   have hw : wrap64 ((j : Int) + 1) = ((j + 1 : Nat) : Int) := by unfold wrap64; omega
   rw [hw, ih (j + 1) (by omega) (by omega)]
   by_cases h : a[j] = b[j]
   ·rw [if_pos h]; simp only [h, List.cons.injEq, true_and]
   ·rw [if_neg h]; simp only [List.cons.injEq, h, false_and, decide_false]
  ·rw [if_neg (by omega), List.drop_of_length_le (by omega), List.drop_of_length_le (by omega)]
   simp
theorem impl_Decl_kindOf.equal_is (a b : List Int) (hb : a.length ≤ 2) : slices_Equal_int64_int64.f 4 a b = some (decide (a = b)) := by
 unfold slices_Equal_int64_int64.f
 by_cases hl : a.length = b.length
 ·rw [if_pos (by omega)]
  have := impl_Decl_kindOf.equal_l a b hl hb 4 0 (by omega) (by omega)
  simpa using this
 ·rw [if_neg (by omega)]
  have : a ≠ b := fun h => hl (by rw [h])
  simp [this]
def impl_Decl_kindOf.want (op : Int) : List Int := if op = 6 ∨ op = 7 then [1] else if 8 ≤ op ∧ op ≤ 18 then [1, 1] else if op = 19 then [2] else if op = 20 ∨ op = 21 then [2, 2] else []
def impl_Decl_kindOf.leaf (op : Int) : Int := if 3 ≤ op ∧ op ≤ 5 then 2 else if op ≥ 13 then 2 else 1
def impl_Decl_kindOf.loop : List S86 → List Int → Int
 | [], p => if p.length = 1 then p.getD 0 0 else 0
 | x :: t, p => if p.length < (impl_Decl_kindOf.want x.f0).length then 0 else if p.drop (p.length - (impl_Decl_kindOf.want x.f0).length) = impl_Decl_kindOf.want x.f0 then impl_Decl_kindOf.loop t (p.take (p.length - (impl_Decl_kindOf.want x.f0).length) ++ [impl_Decl_kindOf.leaf x.f0]) else 0
theorem impl_Decl_kindOf.takes_is (op : Int) (k : Nat) (hk : 1 < k) : impl_takes.f k op = some (impl_Decl_kindOf.want op) := by
 obtain ⟨k, rfl⟩ : ∃ m, k = m + 1 := ⟨k - 1, by omega⟩
 unfold impl_takes.f impl_Decl_kindOf.want
 simp only [impl_takes.j0, impl_within.f]
 by_cases h6 : op = 6
 ·subst h6; rfl
 by_cases h7 : op = 7
 ·subst h7; rfl
 rw [if_neg h6, beq_eq_false_iff_ne.mpr h7, if_neg (by decide), if_neg (show ¬ (op = 6 ∨ op = 7) by omega)]
 by_cases h8 : 8 ≤ op
 ·rw [if_pos h8, Option.bind_some]
  by_cases h18 : op ≤ 18
  ·rw [decide_eq_true h18, if_pos rfl, if_pos ⟨h8, h18⟩]
  ·rw [decide_eq_false h18, if_neg (by decide), if_neg (show ¬ (8 ≤ op ∧ op ≤ 18) by omega)]
   by_cases h19 : op = 19
   ·rw [if_pos h19, if_pos h19]
   rw [if_neg h19, if_neg h19]
   by_cases h20 : op = 20
   ·rw [if_pos h20, if_pos (Or.inl h20)]
   rw [if_neg h20]
   by_cases h21 : op = 21
   ·rw [if_pos h21, if_pos (Or.inr h21)]
   ·rw [if_neg h21, if_neg (show ¬ (op = 20 ∨ op = 21) by omega)]
 ·rw [if_neg h8, Option.bind_some, if_neg (by decide), if_neg (show ¬ (8 ≤ op ∧ op ≤ 18) by omega), if_neg (show ¬ op = 19 by omega), if_neg (show ¬ op = 19 by omega), if_neg (show ¬ op = 20 by omega), if_neg (show ¬ op = 21 by omega), if_neg (show ¬ (op = 20 ∨ op = 21) by omega)]
theorem impl_Decl_kindOf.leaf_is (op : Int) : impl_leaves.f op = some (impl_Decl_kindOf.leaf op) := by
 unfold impl_leaves.f impl_Decl_kindOf.leaf impl_within.f
 by_cases h3 : 3 ≤ op
 ·rw [if_pos h3, Option.bind_some]
  by_cases h5 : op ≤ 5
  ·rw [decide_eq_true h5, if_pos rfl, if_pos ⟨h3, h5⟩]
  ·rw [decide_eq_false h5, if_neg (by decide), if_neg (show ¬ (3 ≤ op ∧ op ≤ 5) by omega)]
   by_cases h13 : op ≥ 13
   ·rw [if_pos h13, if_pos h13]
   ·rw [if_neg h13, if_neg h13]
 ·rw [if_neg h3, Option.bind_some, if_neg (by decide), if_neg (show ¬ (3 ≤ op ∧ op ≤ 5) by omega), if_neg (show ¬ op ≥ 13 by omega), if_neg (show ¬ op ≥ 13 by omega)]
def impl_Decl_kindOf.f (l0 : List ByteArray) (l1 : List ByteArray) (l2 : List S91) (m : List S86) : Option Int := if l0.length < 4398046511104 ∧ l1.length < 4398046511104 ∧ l2.length < 4398046511104 then some (if m.length ≤ 40 then (if m.all (impl_Decl_kindOf.tokB l0 l1 l2) = true then impl_Decl_kindOf.loop m [] else 0) else 0) else none
set_option maxHeartbeats 40000000 in
set_option maxRecDepth 100000 in
theorem impl_Decl_kindOf.calls (A0_0 : Option Addr) (c0_0 : Nat) (l0_0 : List ByteArray) (A0_1 : Option Addr) (c0_1 : Nat) (l0_1 : List ByteArray) (A0_2 : Option Addr) (c0_2 : Nat) (l0_2 : List S91) (A1 : Option Addr) (c1 : Nat) (l1 : List S86) (r : Int) (w : World) (hr0_0 : Kd.C Kd.string w A0_0 l0_0.length l0_0) (hc0_0 : l0_0.length ≤ c0_0) (hr0_1 : Kd.C Kd.string w A0_1 l0_1.length l0_1) (hc0_1 : l0_1.length ≤ c0_1) (hr0_2 : Kd.C k91 w A0_2 l0_2.length l0_2) (hc0_2 : l0_2.length ≤ c0_2) (hr1 : Kd.C k86 w A1 l1.length l1) (hc1 : l1.length ≤ c1) (h : impl_Decl_kindOf.f l0_0 l0_1 l0_2 l1 = some r) :
  Calls Tryd.prog 86 #[.agg #[.slice A0_0 l0_0.length c0_0, .slice A0_1 l0_1.length c0_1, .slice A0_2 l0_2.length c0_2], .slice A1 l1.length c1] w fun e w' => e = .returned (.int .i64 r) ∧ Below w.heap.size w w' := by
 unfold impl_Decl_kindOf.f at h
 split at h
 case isFalse => exact absurd h (by simp)
 rename_i hl
 obtain rfl := Option.some.inj h
 clear h
 by_cases h40 : l1.length ≤ 40
 case neg =>
  have hk : decide ((l1.length : Int) > 40) = true := by simp; omega
  have hk2 : decide (40 < (l1.length : Int)) = true := by simp; omega
  rw [if_neg h40]
  clear hr0_0 hr0_1 hr0_2 hr1 hl hc0_0 hc0_1 hc0_2 hc1
  go_enter Tryd.func86, Tryd.ntmps86
  go_wp2
  go_ret
  exact ⟨rfl, (Below.refl _ w).alloc (Nat.le_refl _) _⟩
 case pos =>
  have hk : decide ((l1.length : Int) > 40) = false := by simp; omega
  have hk2 : decide (40 < (l1.length : Int)) = false := by simp; omega
  have HA := Aside0.mk fun W hb => impl_Decl_kindOf.all A0_0 c0_0 l0_0 A0_1 c0_1 l0_1 A0_2 c0_2 l0_2 A1 c1 l1 W (Kd.C_below hr0_0 hb) hc0_0 (Kd.C_below hr0_1 hb) hc0_1 (Kd.C_below hr0_2 hb) hc0_2 hl (Kd.C_below hr1 hb) h40
  have HR := Aside0.mk hr1
  have H40 := Aside0.mk h40
  have HB := Aside0.mk (Below.refl w.heap.size w)
  rw [if_pos h40]
  clear hr0_0 hr0_1 hr0_2 hr1 hl hc0_0 hc0_1 hc0_2 hc1 h40
  cases hq : l1.all (impl_Decl_kindOf.tokB l0_0 l0_1 l0_2) with
  | false =>
   rw [hq] at HA
   clear hq
   go_enter Tryd.func86, Tryd.ntmps86
   go_wp2_with (first
    | ((with_reducible refine gate_dst (N := 2) rfl ?_); refine box_event rfl rfl (cs := #[.slice A0_0 l0_0.length c0_0, .slice A0_1 l0_1.length c0_1, .slice A0_2 l0_2.length c0_2]) (t := 30) (by first | (go_simp; done) | (go_simp; rfl)) ?_; intro g1 hg w1 hbox hb; replace HB := bs HB hb; have BK := Aside0.mk hbox; have b0 : w1.cell? ⟨g1, 0, none⟩ = some (.slice A0_0 l0_0.length c0_0) := (blk_cell BK.out 0).trans rfl; have b1 : w1.cell? ⟨g1, 1, none⟩ = some (.slice A0_1 l0_1.length c0_1) := (blk_cell BK.out 1).trans rfl; have b2 : w1.cell? ⟨g1, 2, none⟩ = some (.slice A0_2 l0_2.length c0_2) := (blk_cell BK.out 2).trans rfl; clear hg hbox hb)
    | (go_at_call 130; refine (HA.out _ (bw HB)).mono ?_; rintro e w2 ⟨rfl, hb⟩; replace BK := bb BK hb; replace HB := bs HB hb; clear hb b0 b1 b2))
   go_ret
   exact ⟨rfl, bw HB⟩
  | true =>
   rw [hq] at HA
   clear hq
   go_enter Tryd.func86, Tryd.ntmps86
   go_wp2_with (first
    | ((with_reducible refine gate_dst (N := 2) rfl ?_); refine box_event rfl rfl (cs := #[.slice A0_0 l0_0.length c0_0, .slice A0_1 l0_1.length c0_1, .slice A0_2 l0_2.length c0_2]) (t := 30) (by first | (go_simp; done) | (go_simp; rfl)) ?_; intro g1 hg w1 hbox hb; replace HB := bs HB hb; have BK := Aside0.mk hbox; have b0 : w1.cell? ⟨g1, 0, none⟩ = some (.slice A0_0 l0_0.length c0_0) := (blk_cell BK.out 0).trans rfl; have b1 : w1.cell? ⟨g1, 1, none⟩ = some (.slice A0_1 l0_1.length c0_1) := (blk_cell BK.out 1).trans rfl; have b2 : w1.cell? ⟨g1, 2, none⟩ = some (.slice A0_2 l0_2.length c0_2) := (blk_cell BK.out 2).trans rfl; clear hg hbox hb)
    | (go_at_call 130; refine (HA.out _ (bw HB)).mono ?_; rintro e w2 ⟨rfl, hb⟩; replace BK := bb BK hb; replace HB := bs HB hb; clear hb b0 b1 b2))
   go_loopg [5, 7, 8, 9, 22] l1.length (fun gg s5 _ _ _ s22 wr => ∃ (kk : Nat) (p : List Int), kk ≤ l1.length ∧ l1.length - kk ≤ gg ∧ s22 = .int .i64 kk ∧ p.length ≤ kk ∧ Aside0 (impl_Decl_kindOf.loop (l1.drop kk) p = impl_Decl_kindOf.loop l1 []) ∧ Aside0 (Kd.R (Kd.int .i64) 2 wr w.heap.size (fun _ => True) s5 p) ∧ Aside0 (Below w.heap.size w wr))
   case atStart => exact ⟨0, [], Nat.zero_le _, by omega, rfl, Nat.le_refl _, ⟨rfl⟩, ⟨Kd.R_nil _ _ _ _ _⟩, HB⟩
   case round =>
    clear HB BK
    obtain ⟨kk, p, hkk, hg, rfl, hp, HP, HO, HB⟩ := hrel
    by_cases hlt : kk < l1.length
    ·obtain ⟨ad, rfl, y0, y1⟩ := at_T86 (Kd.C_below HR.out HB.out) (kk : Int) (by omega) (by omega)
     have e : (rd_T86 l1 (kk : Int)) = l1[kk] := by unfold rd_T86; simp [List.getD_eq_getElem?_getD, hlt]
     simp only [Int.toNat_natCast] at y0 y1
     rw [e] at y0 y1
     clear e
     have hd := HP.out
     rw [List.drop_eq_getElem_cons hlt] at hd
     generalize l1[kk] = x at y0 y1 hd
     have HD := Aside0.mk hd
     clear hd HP
     obtain ⟨Ap, cp, rfl, hcp, hCp⟩ := Kd.R_reads HO.out
     go_wp2_with fail
     refine (impl_takes.calls 2 x.f0 _ _ (impl_Decl_kindOf.takes_is x.f0 2 (by decide))).mono ?_
     rintro e w3 ⟨vw, rfl, hRw, hb⟩
     obtain ⟨Aw, cw, rfl, hcw, hCw⟩ := Kd.R_reads hRw
     have HOp := Aside0.mk (Kd.R_below (Kd.R_alloc HO.out _) hb)
     have XK := Aside0.mk (blk_below (blk_new wr _) hb)
     replace HB := bs HB hb
     have HCw := Aside0.mk hCw
     have hwl : (impl_Decl_kindOf.want x.f0).length ≤ 2 := by unfold impl_Decl_kindOf.want; split <;> (try split) <;> (try split) <;> (try split) <;> simp
     clear hb hCw hRw hCp HO
     have hpl : p.length ≤ 40 := by have := H40.out; omega
     by_cases hlw : p.length < (impl_Decl_kindOf.want x.f0).length
     ·obtain ⟨ji, hji⟩ : ∃ j_ : Int, wrap64 ((p.length : Int) - ((impl_Decl_kindOf.want x.f0).length : Int)) = j_ := ⟨_, rfl⟩
      have hr : decide (ji < 0) = true := decide_eq_true (by rw [← hji]; unfold wrap64; omega)
      have hjw := (i64_w _).trans hji
      have HLW := Aside0.mk hlw
      clear hlw hji
      dsimp only
      go_wp2
      go_ret
      exact ⟨by rw [← HD.out]; unfold impl_Decl_kindOf.loop; rw [if_pos HLW.out]; rfl, HB.out⟩
     ·obtain ⟨rest, hrest⟩ : ∃ r : Nat, p.length = r + (impl_Decl_kindOf.want x.f0).length := ⟨p.length - (impl_Decl_kindOf.want x.f0).length, by omega⟩
      have hw := (i64_w _).trans (show wrap64 ((p.length : Int) - ((impl_Decl_kindOf.want x.f0).length : Int)) = (rest : Int) by unfold wrap64; omega)
      have hr : decide ((rest : Int) < 0) = false := decide_eq_false (by omega)
      have hpr : rest ≤ p.length := by omega
      obtain ⟨i0, hi0, _, hsz, _⟩ := info_parts info2
      obtain ⟨Ad, hAd⟩ : ∃ A_, (if cp = ((rest : Int)).toNat then Ap else Ap.map (·.add (((rest : Int)).toNat * 1))) = A_ := ⟨_, rfl⟩
      have hcut := cut_from (P := Tryd.prog) 45 2 .i64 Tryd.underlying45 hi0 1 hsz Ap p.length cp (rest : Int) (by omega) (by omega)
      rw [hAd, Int.toNat_natCast, ← List.length_drop] at hcut
      have HCd := Aside0.mk (impl_Decl_kindOf.C_from (Kd.R_reads' HOp.out).2.2 (A := Ad) hcp hpr (by rw [← hAd, Int.toNat_natCast, Nat.mul_one]))
      obtain ⟨pd, hpd⟩ : ∃ l_, p.drop rest = l_ := ⟨_, rfl⟩
      have hpl2 : pd.length = p.length - rest := by rw [← hpd, List.length_drop]
      rw [hpd] at hcut HCd
      clear hi0 hsz hAd
      have HL := Aside0.mk (show pd.length ≤ cp - rest by omega)
      have HCP := Aside0.mk hcp
      have HCW := Aside0.mk hcw
      have HHR := Aside0.mk hrest
      have HNW := Aside0.mk hlw
      by_cases heq : pd = impl_Decl_kindOf.want x.f0
      case neg =>
       have HE := Aside0.mk (impl_Decl_kindOf.equal_is pd (impl_Decl_kindOf.want x.f0) (by omega))
       rw [decide_eq_false heq] at HE
       have HQ := Aside0.mk (show ¬ p.drop rest = impl_Decl_kindOf.want x.f0 by rw [hpd]; exact heq)
       clear heq hpd hpl2 hrest hpr hpl hwl hlw hcp hcw
       dsimp only
       go_wp2_with (go_at_call 133; refine (slices_Equal_int64_int64.calls 4 Ad _ pd Aw cw (impl_Decl_kindOf.want x.f0) _ _ HCd.out HL.out HCw.out HCW.out HE.out).mono ?_; rintro e w4 ⟨rfl, hb⟩; replace HB := bs HB hb.below; clear hb)
       go_ret
       exact ⟨by rw [← HD.out]; unfold impl_Decl_kindOf.loop; rw [if_neg HNW.out, show p.length - (impl_Decl_kindOf.want x.f0).length = rest by have := HHR.out; omega, if_neg HQ.out]; rfl, HB.out⟩
      case pos =>
       have HE := Aside0.mk (impl_Decl_kindOf.equal_is pd (impl_Decl_kindOf.want x.f0) (by omega))
       rw [decide_eq_true heq] at HE
       have HQ := Aside0.mk (hpd.trans heq)
       clear heq hpl2
       obtain ⟨i0, hi0, _, hsz, _⟩ := info_parts info2
       have hcut2 := cut_to (P := Tryd.prog) 45 2 .i64 Tryd.underlying45 hi0 Ap p.length cp (rest : Int) (by omega) (by omega) hcp
       have hr2 := Kd.R_take (m := rest) HOp.out (by omega)
       obtain ⟨pt, hpt⟩ : ∃ l_, p.take rest = l_ := ⟨_, rfl⟩
       have hy : Value.slice Ap rest cp = Value.slice Ap pt.length cp := by rw [← hpt, List.length_take, Nat.min_eq_left hpr]
       rw [Int.toNat_natCast, hy] at hcut2
       rw [hy, hpt] at hr2
       have HR2 := Aside0.mk hr2
       have HPT := Aside0.mk hpt
       have HPL := Aside0.mk (show pt.length ≤ 40 by rw [← hpt, List.length_take]; omega)
       clear hpt hpd hrest hpr hpl hwl hlw hcp hcw hy hr2 hi0 hsz
       dsimp only
       go_wp2_with (go_at_call 133; refine (slices_Equal_int64_int64.calls 4 Ad _ pd Aw cw (impl_Decl_kindOf.want x.f0) _ _ HCd.out HL.out HCw.out HCW.out HE.out).mono ?_; rintro e w4 ⟨rfl, hb⟩; have HO4 := Aside0.mk (Kd.R_below HR2.out hb.below); have XK4 := Aside0.mk (blk_below XK.out hb.below); have y4 : w4.cell? ⟨wr.heap.size, 0, none⟩ = some (.int .i64 x.f0) := (blk_cell XK4.out 0).trans rfl; replace HB := bs HB hb.below; clear hb HR2 XK)
       have HO5 := Aside0.mk (Kd.R_drew HO4.out)
       replace XK4 := Aside0.mk (blk_drew XK4.out)
       replace HB := Aside0.mk (below_drew1 HB.out)
       clear HO4 y4
       refine start_ (n := 9) (S := (fun w' => w'.cell? ⟨wr.heap.size, 0, none⟩ = some (.int .i64 x.f0))) (ds := []) #[false, false, false, false, false, false, false, false, false] (by kernel_rfl) rfl rfl ((blk_cell XK4.out 0).trans rfl) (fun hHeld => ?_)
       generalize w4.drew = w5 at HO5 XK4 HB hHeld ⊢
       refine pure_ (i := 0) (N := some 44) (v := ?_) (a' := ?_) #[true, false, false, false, false, false, false, false, false] rfl rfl (by kernel_rfl) (fun _ _ _ h => h) (Or.inl ⟨by rfl, ?_⟩) ?_ ?_
       rotate_left
       ·intro w'
        go_simp
        with_reducible rfl
       rotate_left
       ·simp only [Act.put, List.setIfInBounds_toArray, List.set_cons_zero, List.set_cons_succ, i64_w, i32_w]
        rfl
       refine pure_ (i := 1) (N := some 45) (v := ?_) (a' := ?_) #[true, true, false, false, false, false, false, false, false] rfl rfl (by kernel_rfl) (fun _ _ _ h => h) (Or.inl ⟨by rfl, ?_⟩) ?_ ?_
       rotate_left
       ·intro w'
        go_simp
        with_reducible rfl
       rotate_left
       ·simp only [Act.put, List.setIfInBounds_toArray, List.set_cons_zero, List.set_cons_succ, i64_w, i32_w]
        rfl
       refine pure_ (i := 2) (N := some 46) (v := ?_) (a' := ?_) #[true, true, true, false, false, false, false, false, false] rfl rfl (by kernel_rfl) (fun _ _ _ h => h) (Or.inl ⟨by rfl, ?_⟩) ?_ ?_
       rotate_left
       ·intro w'
        go_simp
        with_reducible rfl
       rotate_left
       ·simp only [Act.put, List.setIfInBounds_toArray, List.set_cons_zero, List.set_cons_succ, i64_w, i32_w]
        rfl
       refine pure_ (i := 3) (N := some 47) (v := ?_) (a' := ?_) #[true, true, true, true, false, false, false, false, false] rfl rfl (by kernel_rfl) (fun _ _ _ h => h) (Or.inl ⟨by rfl, ?_⟩) ?_ ?_
       rotate_left
       ·intro w'
        go_simp
        with_reducible rfl
       rotate_left
       ·simp only [Act.put, List.setIfInBounds_toArray, List.set_cons_zero, List.set_cons_succ, i64_w, i32_w]
        rfl
       refine take_ (i := 4) (N := some 48) (v := ?_) (a' := ?_) #[true, true, true, true, true, false, false, false, false] rfl rfl (by kernel_rfl) (fun _ _ _ h => h) (Or.inl ⟨by rfl, ?_⟩) hHeld ?_ ?_
       rotate_left
       ·intro w' s0
        go_simp
        with_reducible rfl
       rotate_left
       ·simp only [Act.put, List.setIfInBounds_toArray, List.set_cons_zero, List.set_cons_succ, i64_w, i32_w]
        rfl
       refine one_ (i := 5) (N := some 49) #[true, true, true, true, true, true, false, false, false] rfl rfl (by kernel_rfl) (by decide) (fun K hK => ?_)
       refine goes_ Tryd.func134 (by kernel_rfl) rfl #[.int .i64 x.f0] (by rfl) rfl rfl (by (try simp only [List.map_toArray, List.map_cons, List.map_nil]); first | done | rfl) ?_
       refine (impl_leaves.calls x.f0 (impl_Decl_kindOf.leaf x.f0) w5 (impl_Decl_kindOf.leaf_is x.f0)).mono ?_
       rintro e w6 ⟨rfl, hd⟩
       refine ⟨_, rfl, ?_⟩
       have HO6 := Aside0.mk (Kd.R_below HO5.out hd.below)
       have XK6 := Aside0.mk (blk_below XK4.out hd.below)
       replace HB := bs HB hd.below
       clear hd HO5 XK4 hHeld
       refine hK.out _ _ ((blk_cell XK6.out 0).trans rfl) (fun hHeld => ?_)
       clear hK K
       refine norm_ (a' := ?_) ?_ ?_
       rotate_left
       ·show Act.put _ (some 49) _ = _
        simp only [Act.put, List.setIfInBounds_toArray, List.set_cons_zero, List.set_cons_succ, i64_w, i32_w]
        rfl
       refine one_ (i := 6) (N := some 50) #[true, true, true, true, true, true, true, false, false] rfl rfl (by kernel_rfl) (by decide) (fun K hK => ?_)
       refine value_ (w1 := ?_) (v := ?_) (by rfl) rfl ?_ ?_
       rotate_left 2
       ·go_simp
        constructor
        ·rfl
        ·rfl
       refine hK.out _ _ ((blk_cell (blk_alloc XK6.out _) 0).trans rfl) (fun hHeld => ?_)
       clear hK K
       refine norm_ (a' := ?_) ?_ ?_
       rotate_left
       ·show Act.put _ (some 50) _ = _
        simp only [Act.put, List.setIfInBounds_toArray, List.set_cons_zero, List.set_cons_succ, i64_w, i32_w]
        rfl
       refine one_ (i := 7) (N := some 51) #[true, true, true, true, true, true, true, true, false] rfl rfl (by kernel_rfl) (by decide) (fun K hK => ?_)
       refine Kd.R_append_step (Kd.int .i64) (w0 := w) w.heap.size (by rfl) (.tmp 46) (.tmp 50) 45 2 (.int .i64 0) 8 rfl Tryd.underlying45 info2 rfl (by decide) (by omega) (.slice Ap pt.length cp) pt (impl_Decl_kindOf.leaf x.f0) [.int .i64 (impl_Decl_kindOf.leaf x.f0)] (fun _ => True) (fun _ => False) rfl rfl ?aP (fun _ hk => hk.elim) (fun _ _ => trivial) HO6.out HB.out (below_size HB.out) ?aL ?_
       case aP => exact rfl
       case aL => have := HPL.out; omega
       intro v1 w8 ho hb hg hat
       have XK8 := Aside0.mk (blk_grown XK6.out hg (Kd.R_ne HO6.out XK6.out (by decide)))
       have HO8 := Aside0.mk ho
       have HB8 := Aside0.mk hb
       clear ho hb hg hat HO6 XK6 HB hHeld
       refine hK.out _ _ ((blk_cell XK8.out 0).trans rfl) (fun hHeld => ?_)
       clear hK K
       refine norm_ (a' := ?_) ?_ ?_
       rotate_left
       ·show Act.put _ (some 51) _ = _
        simp only [Act.put, List.setIfInBounds_toArray, List.set_cons_zero, List.set_cons_succ, i64_w, i32_w]
        rfl
       refine pure_ (i := 8) (N := some 5) (v := ?_) (a' := ?_) #[true, true, true, true, true, true, true, true, true] rfl rfl (by kernel_rfl) (fun _ _ _ h => h) (Or.inl ⟨by rfl, ?_⟩) ?_ ?_
       rotate_left
       ·intro w'
        go_simp
        with_reducible rfl
       rotate_left
       ·simp only [Act.put, List.setIfInBounds_toArray, List.set_cons_zero, List.set_cons_succ, i64_w, i32_w]
        rfl
       refine done_ (by kernel_rfl) ?_
       go_wp2
       go_roundg (l1.length - (kk + 1))
       case measure => omega
       case rel =>
        refine ⟨kk + 1, pt ++ [impl_Decl_kindOf.leaf x.f0], by omega, by omega, by have := H40.out; exact congrArg (Value.int .i64) (show wrap64 ((kk : Int) + 1) = ((kk + 1 : Nat) : Int) by unfold wrap64; omega), ?_, ⟨?_⟩, HO8, HB8⟩
        ·have h1 := HHR.out
         rw [List.length_append, ← HPT.out, List.length_take, List.length_cons, List.length_nil]
         have : (impl_Decl_kindOf.want x.f0).length ≤ 2 := by unfold impl_Decl_kindOf.want; split <;> (try split) <;> (try split) <;> (try split) <;> simp
         omega
        ·rw [← HD.out]
         conv => rhs; unfold impl_Decl_kindOf.loop
         rw [if_neg HNW.out, show p.length - (impl_Decl_kindOf.want x.f0).length = rest by have := HHR.out; omega, if_pos HQ.out, HPT.out]
    ·have hk : kk = l1.length := by omega
     subst hk
     have hf := HP.out
     rw [List.drop_length] at hf
     have HF := Aside0.mk hf
     clear hf HP
     obtain ⟨Ap, cp, rfl, hcp, hCp⟩ := Kd.R_reads HO.out
     by_cases h1 : p.length = 1
     ·have c1 : ((p.length : Int) == 1) = true := beq_iff_eq.mpr (by omega)
      have c2 : ((p.length : Int) != 1) = false := bne_eq_false_iff_eq.mpr (by omega)
      have H1 := Aside0.mk h1
      have p0 : 0 ≤ (0 : Int) := by omega
      have q0 : 0 < (p.length : Int) := by omega
      obtain ⟨ad0, e0, hx0⟩ := Kd.at_int hCp 0 p0 q0
      cases e0
      have qi0 : (0 < p.length) = True := eq_true (by omega)
      rw [show ((0 : Int)).toNat = 0 from rfl, Addr.add_zero'] at hx0
      replace p0 := eq_true p0
      replace q0 := eq_true q0
      clear hp hkk hg hlt h1 hcp hCp
      go_wp2
      go_ret
      exact ⟨by rw [← HF.out]; unfold impl_Decl_kindOf.loop; rw [if_pos H1.out]; first | rfl | (simp [rd]; done), by first | exact HB.out | exact bw HB⟩
     ·have c1 : ((p.length : Int) == 1) = false := beq_eq_false_iff_ne.mpr (by omega)
      have c2 : ((p.length : Int) != 1) = true := bne_iff_ne.mpr (by omega)
      have H1 := Aside0.mk h1
      clear hp hkk hg hlt h1 hcp hCp
      go_wp2
      go_ret
      exact ⟨by rw [← HF.out]; unfold impl_Decl_kindOf.loop; rw [if_neg H1.out]; first | rfl | (simp; done), by first | exact HB.out | exact bw HB⟩

end Go.Proofs.YtcomagipdbdglaaDoor.Q
