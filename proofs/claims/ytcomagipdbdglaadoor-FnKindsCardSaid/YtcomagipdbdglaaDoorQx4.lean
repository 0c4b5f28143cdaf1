-- Contracts of the program's functions, each with the plain function that it computes.
import Derived.Test.YtcomagipdbdglaaDoorQx0
import Derived.Test.YtcomagipdbdglaaDoorQx1
import Derived.Test.YtcomagipdbdglaaDoorQx2
import Derived.Test.YtcomagipdbdglaaDoorQx3
namespace Go.Proofs.YtcomagipdbdglaaDoor.Q
open Go.RowKit Go.Proofs.YtcomagipdbdglaaDoorW.PrintWords Go.Proofs.YtcomagipdbdglaaDoorW.PrintLast Go.Proofs.YtcomagipdbdglaaDoorW.PrintMore
attribute [local go_sem] max2_int min2_int max_two min_two max_three min_three max_four min_four   -- for this text's walks alone
set_option linter.unusedVariables false
set_option linter.unusedSimpArgs false

/-! ### impl_Decl_isRight: function 58 -/
def impl_Decl_isRight.has (l : List ByteArray) (s : ByteArray) : Bool := l.any fun x => decide (s = x)
def impl_Decl_isRight.nameB (s : ByteArray) : Bool := (s.data.toList.all fun c => decide (97 ≤ c.toNat ∧ c.toNat ≤ 122)) && decide (1 ≤ s.size ∧ s.size ≤ 8) && !(impl_Decl_isRight.has (impl_isWord.words) s)
def impl_Decl_isRight.run : List ByteArray → List ByteArray → Bool
 | _, [] => true
 | seen, s :: t => impl_Decl_isRight.nameB s && !(impl_Decl_isRight.has (seen) s) && impl_Decl_isRight.run (seen ++ [s]) t
def impl_Decl_isRight.sizeB (x : S91) : Bool := decide (1 ≤ x.f1 ∧ x.f1 ≤ 16)
def impl_Decl_isRight.ok (l0 : List ByteArray) (l1 : List ByteArray) (l2 : List S91) : Bool := impl_Decl_isRight.run [] (l0 ++ l1 ++ l2.map (·.f0)) && decide (l0.length ≤ 5) && decide (l1.length ≤ 3) && decide (l2.length ≤ 2) && l2.all impl_Decl_isRight.sizeB
def impl_Decl_isRight.f (l0 : List ByteArray) (l1 : List ByteArray) (l2 : List S91) : Option Bool := if l0.length + l1.length + l2.length < 4398046511104 ∧ (∀ s ∈ l0 ++ l1 ++ l2.map (·.f0), s.size < 4398046511104) then some (impl_Decl_isRight.ok l0 l1 l2) else none
theorem impl_Decl_isRight.w1 (n : Nat) (h : n < 4398046511104) : wrap64 ((n : Int) + 1) = ((n + 1 : Nat) : Int) := by unfold wrap64; omega
theorem impl_Decl_isRight.teq (a b : ByteArray) : a.toList = b.toList ↔ a = b := by
 rw [ByteArray.toList_eq, ByteArray.toList_eq]
 constructor
 ·intro h
  cases a; cases b
  simpa using h
 ·rintro rfl; rfl
theorem impl_Decl_isRight.index_l (l : List ByteArray) (s : ByteArray) (hl : l.length < 4398046511104) : ∀ n i k, i + n = l.length → n < k → ∃ t, slices_Index_string_string.l0 k l s (l.length : Int) i = some t ∧ decide (t ≥ 0) = impl_Decl_isRight.has (l.drop i) s
 | 0, i, k + 1, hi, _ => by
  refine ⟨-1, ?_, ?_⟩
  ·unfold slices_Index_string_string.l0
   rw [if_neg (by omega)]
  ·rw [List.drop_eq_nil_of_le (by omega)]; rfl
 | n + 1, i, k + 1, hi, hk => by
  have hlt : i < l.length := by omega
  have hd : rdOf ByteArray.empty l (i : Int) = l[i] := by unfold rdOf; simp [List.getD_eq_getElem?_getD, hlt]
  have hc : l.drop i = l[i] :: l.drop (i + 1) := List.drop_eq_getElem_cons hlt
  unfold slices_Index_string_string.l0
  rw [if_pos (by omega), if_pos (by omega), if_pos (by omega), hd, impl_Decl_isRight.w1 i (by omega)]
  by_cases he : s = l[i]
  ·rw [if_pos ((impl_Decl_isRight.teq _ _).2 he)]
   exact ⟨i, rfl, by rw [hc]; unfold impl_Decl_isRight.has; rw [List.any_cons]; simp [he]⟩
  ·rw [if_neg (fun h => he ((impl_Decl_isRight.teq _ _).1 h))]
   obtain ⟨t, h1, h2⟩ := impl_Decl_isRight.index_l l s hl n (i + 1) k (by omega) (by omega)
   exact ⟨t, h1, by rw [h2, hc]; unfold impl_Decl_isRight.has; rw [List.any_cons]; simp [he]⟩
theorem impl_Decl_isRight.cont (l : List ByteArray) (s : ByteArray) (hl : l.length < 4398046511104) (k : Nat) (hk : l.length < k) : slices_Contains_string_string.f k l s = some (impl_Decl_isRight.has (l) s) := by
 obtain ⟨t, h1, h2⟩ := impl_Decl_isRight.index_l l s hl l.length 0 k (by omega) hk
 unfold slices_Contains_string_string.f slices_Index_string_string.f
 rw [show (0 : Int) = ((0 : Nat) : Int) from rfl, h1]
 rw [List.drop_zero] at h2
 exact congrArg some h2
theorem impl_Decl_isRight.byte (s : ByteArray) (i : Nat) (h : i < s.size) : bt s (i : Int) = ((s.data.toList[i]'h).toNat : Int) := by
 unfold bt
 rw [dif_pos (by simpa using h)]
 rfl
theorem impl_Decl_isRight.name_l (s : ByteArray) (hs : s.size < 4398046511104) : ∀ n i k, i + n = s.size → n < k → impl_isName.l0 k s (s.size : Int) i = some (((s.data.toList.drop i).all fun c => decide (97 ≤ c.toNat ∧ c.toNat ≤ 122)) && decide (1 ≤ s.size ∧ s.size ≤ 8) && !(impl_Decl_isRight.has (impl_isWord.words) s))
 | 0, i, k + 1, hi, _ => by
  have hz : s.data.toList.length = s.size := rfl
  unfold impl_isName.l0 impl_within.f
  rw [if_neg (by omega), List.drop_eq_nil_of_le (by omega)]
  have hw : impl_isWord.f s = some (impl_Decl_isRight.has (impl_isWord.words) s) := impl_Decl_isRight.cont _ s (by decide) 20 (by decide)
  by_cases h1 : 1 ≤ s.size
  ·rw [if_pos (by omega)]
   by_cases h8 : s.size ≤ 8
   ·rw [hw]
    have h1' : (1 : Int) ≤ (s.size : Int) := by omega
    have h8' : (s.size : Int) ≤ 8 := by omega
    simp [h1, h8, h1', h8']
   ·have h8' : ¬ (s.size : Int) ≤ 8 := by omega
    simp [h1, h8, h8']
  ·rw [if_neg (by omega)]
   simp [h1]
 | n + 1, i, k + 1, hi, hk => by
  have hz : s.data.toList.length = s.size := rfl
  have hlt : i < s.size := by omega
  have hc : s.data.toList.drop i = (s.data.toList[i]'hlt) :: s.data.toList.drop (i + 1) := List.drop_eq_getElem_cons hlt
  unfold impl_isName.l0 impl_isLetter.f
  rw [if_pos (by omega), if_pos (by omega), if_pos (by omega), impl_Decl_isRight.byte s i hlt, impl_Decl_isRight.w1 i (by omega), impl_Decl_isRight.name_l s hs n (i + 1) k (by omega) (by omega), hc]
  generalize s.data.toList[i]'hlt = b
  by_cases h1 : 97 ≤ b.toNat
  ·have h1' : ((b.toNat : Nat) : Int) ≥ 97 := by omega
   rw [if_pos h1']
   by_cases h2 : b.toNat ≤ 122
   ·have h2' : ((b.toNat : Nat) : Int) ≤ 122 := by omega
    simp [h1, h2, h2']
   ·have h2' : ¬ ((b.toNat : Nat) : Int) ≤ 122 := by omega
    simp [h2, h2']
  ·have h1' : ¬ ((b.toNat : Nat) : Int) ≥ 97 := by omega
   rw [if_neg h1']
   simp [h1]
theorem impl_Decl_isRight.name (s : ByteArray) (hs : s.size < 4398046511104) : impl_isName.f (s.size + 1) s = some (impl_Decl_isRight.nameB s) := impl_Decl_isRight.name_l s hs s.size 0 _ (by omega) (by omega)
theorem impl_Decl_isRight.run_false (l : List ByteArray) : ∀ seen, (∃ i, ∃ h : i < l.length, (impl_Decl_isRight.nameB l[i] && !(impl_Decl_isRight.has (seen ++ l.take i) l[i])) = false) → impl_Decl_isRight.run seen l = false := by
 induction l with
 | nil => rintro seen ⟨i, h, _⟩; simp at h
 | cons s t ih =>
  rintro seen ⟨i, h, hb⟩
  unfold impl_Decl_isRight.run
  cases i with
  | zero => simp only [List.getElem_cons_zero, List.take_zero, List.append_nil] at hb; rw [hb]; rfl
  | succ i =>
   rw [ih (seen ++ [s]) ⟨i, by simpa using h, by simpa [List.append_assoc] using hb⟩]
   simp
theorem impl_Decl_isRight.run_true (l : List ByteArray) : ∀ seen, (∀ i, ∀ h : i < l.length, (impl_Decl_isRight.nameB l[i] && !(impl_Decl_isRight.has (seen ++ l.take i) l[i])) = true) → impl_Decl_isRight.run seen l = true := by
 induction l with
 | nil => intros; rfl
 | cons s t ih =>
  intro seen hb
  unfold impl_Decl_isRight.run
  have h0 := hb 0 (by simp)
  simp only [List.getElem_cons_zero, List.take_zero, List.append_nil] at h0
  rw [h0, ih (seen ++ [s]) (fun i h => by have := hb (i + 1) (by simpa using h); simpa [List.append_assoc] using this)]
  rfl
theorem impl_Decl_isRight.size (x : S91) (W : World) : Calls Tryd.prog 118 #[.agg #[.string x.f0, .int .i64 x.f1]] W fun e w' => e = .returned (.bool (impl_Decl_isRight.sizeB x)) ∧ Below W.heap.size W w' := by
 have hw : impl_within.f x.f1 1 16 = some (impl_Decl_isRight.sizeB x) := by
  unfold impl_within.f impl_Decl_isRight.sizeB
  by_cases h1 : 1 ≤ x.f1 <;> by_cases h2 : x.f1 ≤ 16 <;> simp [h1, h2]
 have HW := Aside0.mk hw
 clear hw
 go_enter Tryd.func118, Tryd.ntmps118
 go_wp2_with fail
 refine (impl_within.calls _ _ _ _ _ HW.out).mono ?_
 rintro e w1 ⟨rfl, hd⟩
 have HD := Aside0.mk hd
 clear hd
 go_wp2
 go_ret
 exact ⟨rfl, ((Below.refl _ W).alloc (Nat.le_refl _) _).trans (HD.out.below.mono (by simp))⟩
/-- The closure of areAll: not what it was made of. -/
theorem impl_Decl_isRight.closure (x : S91) (B : Nat) (W : World) (hB : B < W.heap.size) (hc : W.cell? ⟨B, 0, none⟩ = some (.func (.func 118) #[] #[])) :
  Calls Tryd.prog 150 #[.agg #[.string x.f0, .int .i64 x.f1], .pointer (some ⟨B, 0, none⟩)] W fun e w' => e = .returned (.bool (!impl_Decl_isRight.sizeB x)) ∧ Below W.heap.size W w' := by
 have eg : ∀ args w, (callFunc 118 args).run Tryd.prog w = .ok (.enter 118 args) w := enters_of Tryd.func118 (by kernel_rfl) rfl
 have hne : B ≠ W.heap.size := by omega
 have HE := Aside0.mk (impl_Decl_isRight.size x)
 go_enter Tryd.func150, Tryd.ntmps150
 go_wp2_with fail
 refine (HE.out _).mono ?_
 rintro e w1 ⟨rfl, hb⟩
 have HB := Aside0.mk hb
 clear hb
 go_wp2
 go_ret
 exact ⟨rfl, ((Below.refl _ W).alloc (Nat.le_refl _) _).trans (HB.out.mono (by simp))⟩
set_option maxHeartbeats 2000000 in
theorem impl_Decl_isRight.index (p : S91 → Bool) (g : Nat) (lb : Array Value) (eg : ∀ args w, (callFunc g args).run Tryd.prog w = .ok (.enter g args) w) (A : Option Addr) (c : Nat) (l : List (S91)) (w : World)
  (hp : ∀ (W : World) (x : S91), Below w.heap.size w W → Calls Tryd.prog g (#[.agg #[.string x.f0, .int .i64 x.f1]] ++ lb) W fun e w' => e = .returned (.bool (p x)) ∧ Below w.heap.size w w')
  (hr : Kd.C k91 w A l.length l) (hl : l.length ≤ 2) :
  Calls Tryd.prog 163 #[.slice A l.length c, .func (.func g) #[] lb] w fun e w' => ∃ n : Int, e = .returned (.int .i64 n) ∧ (decide (0 ≤ n) = l.any p) ∧ Below w.heap.size w w' := by
 have HP := Aside0.mk hp
 have HR := Aside0.mk hr
 clear hp hr
 go_enter Tryd.func163, Tryd.ntmps163
 go_wp2
 go_loopg [5, 8] l.length (fun gg _ s8 wr => ∃ kk : Nat, kk ≤ l.length ∧ l.length - kk ≤ gg ∧ s8 = .int .i64 kk ∧ Aside0 (Below w.heap.size w wr) ∧ Aside0 ((l.take kk).any p = false))
 case atStart => exact ⟨0, Nat.zero_le _, by omega, rfl, ⟨Below.refl _ w⟩, ⟨by simp⟩⟩
 case round =>
  obtain ⟨kk, hkk, hg, rfl, BW, AN⟩ := hrel
  by_cases hlt : kk < l.length
  ·obtain ⟨ad, rfl, y0, y1⟩ := at_T91 HR.out (kk : Int) (by omega) (by omega)
   have z0 := (BW.out.cell (World.block_lt_of_cell? w _ y0)).trans y0
   have z1 := (BW.out.cell (World.block_lt_of_cell? w _ y1)).trans y1
   simp only [Int.toNat_natCast] at z0 z1
   clear y0 y1
   have e : (rd_T91 l (kk : Int)) = l[kk] := by unfold rd_T91; simp [List.getD_eq_getElem?_getD, hlt]
   rw [e] at z0 z1
   clear e
   have hcall := HP.out wr l[kk] BW.out
   have ht : (l.take (kk + 1)).any p = p l[kk] := by rw [List.take_succ_eq_append_getElem hlt, List.any_append, AN.out]; simp
   have hsplit : l.any p = ((l.take (kk + 1)).any p || (l.drop (kk + 1)).any p) := by rw [← List.any_append, List.take_append_drop]
   have HT := Aside0.mk ht
   have HS := Aside0.mk hsplit
   clear ht hsplit
   generalize l[kk] = x at z0 z1 hcall HT
   cases hq : p x with
   | true =>
    rw [hq] at hcall
    have HQ := Aside0.mk hq
    clear hq
    go_wp2_with (go_at_fn g; refine hcall.mono ?_; rintro e w' ⟨rfl, hb'⟩)
    go_ret
    exact ⟨_, rfl, by rw [HS.out, HT.out, HQ.out]; simp, hb'⟩
   | false =>
    rw [hq] at hcall
    have HQ := Aside0.mk hq
    clear hq
    go_wp2_with (go_at_fn g; refine hcall.mono ?_; rintro e w' ⟨rfl, hb'⟩)
    go_roundg (l.length - (kk + 1))
    case measure => omega
    case rel => exact ⟨kk + 1, by omega, by omega, by go_num, ⟨hb'⟩, ⟨by rw [HT.out, HQ.out]⟩⟩
  ·have : kk = l.length := by omega
   subst this
   have HA := AN
   have HB := BW
   clear AN BW
   go_wp2
   go_ret
   exact ⟨_, rfl, by have := HA.out; rw [List.take_length] at this; rw [this]; simp, HB.out⟩
theorem impl_Decl_isRight.contains (p : S91 → Bool) (g : Nat) (lb : Array Value) (eg : ∀ args w, (callFunc g args).run Tryd.prog w = .ok (.enter g args) w) (A : Option Addr) (c : Nat) (l : List (S91)) (w : World)
  (hp : ∀ (W : World) (x : S91), Below w.heap.size w W → Calls Tryd.prog g (#[.agg #[.string x.f0, .int .i64 x.f1]] ++ lb) W fun e w' => e = .returned (.bool (p x)) ∧ Below w.heap.size w w')
  (hr : Kd.C k91 w A l.length l) (hl : l.length ≤ 2) :
  Calls Tryd.prog 149 #[.slice A l.length c, .func (.func g) #[] lb] w fun e w' => e = .returned (.bool (l.any p)) ∧ Below w.heap.size w w' := by
 have HI := Aside0.mk (impl_Decl_isRight.index p g lb eg A c l w hp hr hl)
 clear hp hr
 go_enter Tryd.func149, Tryd.ntmps149
 go_wp2_with fail
 refine HI.out.mono ?_
 rintro e w1 ⟨n, rfl, hn, hb⟩
 have HN := Aside0.mk hn
 have HB := Aside0.mk hb
 clear hn hb
 by_cases h : 0 ≤ n
 all_goals
  go_wp2
  go_ret
  exact ⟨by rw [← HN.out]; simp [h], HB.out⟩
theorem impl_Decl_isRight.all (A : Option Addr) (c : Nat) (l : List (S91)) (w : World) (hr : Kd.C k91 w A l.length l) (hl : l.length ≤ 2) :
  Calls Tryd.prog 119 #[.slice A l.length c, .func (.func 118) #[] #[]] w fun e w' => e = .returned (.bool (l.all impl_Decl_isRight.sizeB)) ∧ Below w.heap.size w w' := by
 have eg : ∀ args w, (callFunc 150 args).run Tryd.prog w = .ok (.enter 150 args) w := enters_of Tryd.func150 (by kernel_rfl) rfl
 have hb0 : Below w.heap.size w (w.alloc (.cells #[.func (.func 118) #[] #[]] 145)) := (Below.refl _ w).alloc (Nat.le_refl _) _
 have HC := Aside0.mk (impl_Decl_isRight.contains (fun x => !impl_Decl_isRight.sizeB x) 150 #[.pointer (some ⟨w.heap.size, 0, none⟩)] eg A c l (w.alloc (.cells #[.func (.func 118) #[] #[]] 145))
  (fun W x hb => (impl_Decl_isRight.closure x w.heap.size W (by have := hb.size; simp at this; omega) ((hb.cell (p := ⟨w.heap.size, 0, none⟩) (by simp)).trans (by simp))).mono fun e w' h => ⟨h.1, below_then hb hb.size h.2⟩)
  (Kd.C_below hr hb0) hl)
 have HB0 := Aside0.mk hb0
 clear hb0 hr
 go_enter Tryd.func119, Tryd.ntmps119
 go_wp2_with fail
 refine HC.out.mono ?_
 rintro e w1 ⟨rfl, hb⟩
 have HB := Aside0.mk hb
 clear hb
 go_wp2
 go_ret
 exact ⟨by rw [List.any_eq_not_all_not]; simp, below_then HB0.out (by simp) HB.out⟩
set_option maxHeartbeats 4000000 in
set_option maxRecDepth 100000 in
theorem impl_Decl_isRight.calls (A0_0 : Option Addr) (c0_0 : Nat) (l0_0 : List ByteArray) (A0_1 : Option Addr) (c0_1 : Nat) (l0_1 : List ByteArray) (A0_2 : Option Addr) (c0_2 : Nat) (l0_2 : List S91) (r : Bool) (w : World) (hr0_0 : Kd.C Kd.string w A0_0 l0_0.length l0_0) (hc0_0 : l0_0.length ≤ c0_0) (hr0_1 : Kd.C Kd.string w A0_1 l0_1.length l0_1) (hc0_1 : l0_1.length ≤ c0_1) (hr0_2 : Kd.C k91 w A0_2 l0_2.length l0_2) (hc0_2 : l0_2.length ≤ c0_2) (h : impl_Decl_isRight.f l0_0 l0_1 l0_2 = some r) (hTAB : TabW w := by first | exact HTAB.out | exact TabW.drewN HTAB.out _ | exact TabW.below HTAB.out (by repeat (first | (with_reducible first | exact HB.out | apply below_alloc | apply pw_below_drewN | apply below_drew1 | refine below_set ?_ (Aside0.out (by assumption))) | exact HB.out))) :
  Calls Tryd.prog 58 #[.agg #[.slice A0_0 l0_0.length c0_0, .slice A0_1 l0_1.length c0_1, .slice A0_2 l0_2.length c0_2]] w fun e w' => e = .returned (.bool r) ∧ Below w.heap.size w w' := by
 have HTAB := Aside0.mk hTAB
 clear hTAB
 unfold impl_Decl_isRight.f at h
 split at h
 case isFalse => exact absurd h (by simp)
 rename_i hl
 obtain ⟨hl, hs⟩ := hl
 obtain rfl := Option.some.inj h
 clear h
 have hN : impl_Decl_names.f l0_0 l0_1 l0_2 = some (l0_0 ++ l0_1 ++ l0_2.map (·.f0)) := by unfold impl_Decl_names.f; rw [if_pos hl]
 have HN := Aside0.mk fun W h1 h2 h3 => impl_Decl_names.calls A0_0 c0_0 l0_0 A0_1 c0_1 l0_1 A0_2 c0_2 l0_2 _ W h1 hc0_0 h2 hc0_1 h3 hc0_2 hN
 have hL : (l0_0 ++ l0_1 ++ l0_2.map (·.f0)).length < 4398046511104 := by simp; omega
 unfold impl_Decl_isRight.ok
 generalize l0_0 ++ l0_1 ++ l0_2.map (·.f0) = L at hs HN hL
 have HR0 := Aside0.mk hr0_0
 have HR1 := Aside0.mk hr0_1
 have HR2 := Aside0.mk hr0_2
 have HL := Aside0.mk hL
 have HS := Aside0.mk hs
 have HB := Aside0.mk (Below.refl w.heap.size w)
 clear hr0_0 hr0_1 hr0_2 hl hL hs hc0_0 hc0_1 hN
 go_enter Tryd.func58, Tryd.ntmps58
 go_wp2_with (first
  | ((with_reducible refine gate_dst (N := 1) rfl ?_); refine box_event rfl rfl (cs := #[.slice A0_0 l0_0.length c0_0, .slice A0_1 l0_1.length c0_1, .slice A0_2 l0_2.length c0_2]) (t := 30) (by first | (go_simp; done) | (go_simp; rfl)) ?_; intro g1 hg w1 hbox hb; replace HB := bs HB hb; have BK := Aside0.mk hbox; have b0 : w1.cell? ⟨g1, 0, none⟩ = some (.slice A0_0 l0_0.length c0_0) := (blk_cell BK.out 0).trans rfl; have b1 : w1.cell? ⟨g1, 1, none⟩ = some (.slice A0_1 l0_1.length c0_1) := (blk_cell BK.out 1).trans rfl; have b2 : w1.cell? ⟨g1, 2, none⟩ = some (.slice A0_2 l0_2.length c0_2) := (blk_cell BK.out 2).trans rfl; clear hg hbox hb)
  | (go_at_call 115; refine (HN.out _ (Kd.C_below HR0.out (bw HB)) (Kd.C_below HR1.out (bw HB)) (Kd.C_below HR2.out (bw HB))).mono ?_; rintro e w2 ⟨v, rfl, hR, hb⟩; obtain ⟨A, c, rfl, hlc, hC⟩ := Kd.R_reads hR; have HC := Aside0.mk hC; have HLC := Aside0.mk hlc; replace BK := bb BK hb; replace HB := bs HB hb; clear hR hC hlc hb))
 go_loopg [4, 5, 11] L.length (fun gg _ _ s11 wr => ∃ kk : Nat, kk ≤ L.length ∧ L.length - kk ≤ gg ∧ s11 = .int .i64 kk ∧ Aside0 (∀ i, ∀ h : i < L.length, i < kk → (impl_Decl_isRight.nameB L[i] && !impl_Decl_isRight.has ([] ++ L.take i) L[i]) = true) ∧ Aside0 (Below w2.heap.size w2 wr))
 case atStart => exact ⟨0, Nat.zero_le _, by omega, rfl, ⟨fun i h hi => absurd hi (by omega)⟩, ⟨Below.refl _ _⟩⟩
 case round =>
  obtain ⟨kk, hkk, hg, rfl, AN, BW⟩ := hrel
  have BR := Aside0.mk (below_step HB.out BW.out)
  by_cases hlt : kk < L.length
  ·obtain ⟨ad, hA, y0⟩ := Kd.at_string (Kd.C_below HC.out BW.out) (kk : Int) (by omega) (by omega)
   subst hA
   have he : rdOf ByteArray.empty L (kk : Int) = L[kk] := by unfold rdOf; simp [List.getD_eq_getElem?_getD, hlt]
   simp only [Int.toNat_natCast] at y0
   rw [he] at y0
   have hx := HS.out _ (List.getElem_mem hlt)
   have HX := Aside0.mk fun W hb => impl_isName.calls (L[kk].size + 1) L[kk] _ W (impl_Decl_isRight.name _ hx) (TabW.below HTAB.out hb)
   have hlk : (L.take kk).length = kk := by simp; omega
   have HY := Aside0.mk fun W hb => slices_Contains_string_string.calls (kk + 1) (some ad) c (L.take kk) L[kk] _ W (Kd.C_take (Kd.C_below HC.out hb) hkk) (by rw [hlk]; have := HLC.out; omega) (impl_Decl_isRight.cont (L.take kk) L[kk] (by rw [hlk]; have := HL.out; omega) (kk + 1) (by rw [hlk]; omega))
   rw [hlk] at HY
   have HF := Aside0.mk fun (h : (impl_Decl_isRight.nameB L[kk] && !impl_Decl_isRight.has (L.take kk) L[kk]) = false) => impl_Decl_isRight.run_false L [] ⟨kk, hlt, h⟩
   have HT := Aside0.mk fun (h : (impl_Decl_isRight.nameB L[kk] && !impl_Decl_isRight.has (L.take kk) L[kk]) = true) => (show ∀ i, ∀ h : i < L.length, i < kk + 1 → (impl_Decl_isRight.nameB L[i] && !impl_Decl_isRight.has ([] ++ L.take i) L[i]) = true from fun i hi hik => by
    by_cases hk : i = kk
    ·subst hk; exact h
    ·exact AN.out i hi (by omega))
   have hkc : kk ≤ c := by have := HLC.out; omega
   have HKK := Aside0.mk hkk
   have HLT := Aside0.mk hlt
   have HG := Aside0.mk hg
   clear he hx hkk hg hlk AN
   generalize L[kk] = s at y0 HX HY HF HT
   cases hq : impl_Decl_isRight.nameB s with
   | false =>
    simp only [hq, Bool.false_and] at HX HF
    clear HT HY hq HR0 HR1 HR2 HN
    go_wp2_with (go_at_call 116; refine (HX.out _ BR.out).mono ?_; rintro e w3 ⟨rfl, hb⟩; have HB3 := Aside0.mk (below_step BR.out hb); clear hb)
    go_ret
    exact ⟨by rw [HF.out trivial]; rfl, HB3.out⟩
   | true =>
    cases hc : impl_Decl_isRight.has (L.take kk) s with
    | true =>
     simp only [hq, hc, Bool.not_true, Bool.and_false] at HX HY HF
     clear HT hq hc HR0 HR1 HR2 HN
     go_wp2_with (first
      | (go_at_call 116; refine (HX.out _ BR.out).mono ?_; rintro e w3 ⟨rfl, hb⟩; have HB3 := Aside0.mk (below_step BR.out hb); have HW3 := Aside0.mk (below_step BW.out hb); clear hb)
      | (go_at_call 117; refine (HY.out _ HW3.out).mono ?_; rintro e w4 ⟨rfl, ⟨nd, rfl⟩⟩))
     go_ret
     exact ⟨by rw [HF.out trivial]; rfl, pw_below_drewN HB3.out _⟩
    | false =>
     simp only [hq, hc, Bool.not_false, Bool.and_true] at HX HY HT
     clear HF hq hc HR0 HR1 HR2 HN
     go_wp2_with (first
      | (go_at_call 116; refine (HX.out _ BR.out).mono ?_; rintro e w3 ⟨rfl, hb⟩; have HB3 := Aside0.mk (below_step BR.out hb); have HW3 := Aside0.mk (below_step BW.out hb); clear hb)
      | (go_at_call 117; refine (HY.out _ HW3.out).mono ?_; rintro e w4 ⟨rfl, ⟨nd, rfl⟩⟩))
     go_roundg (L.length - (kk + 1))
     case measure => have := HLT.out; have := HG.out; omega
     case rel => exact ⟨kk + 1, HLT.out, by omega, by have := HL.out; have := HLT.out; rw [impl_Decl_isRight.w1 kk (by omega)], ⟨HT.out trivial⟩, ⟨pw_below_drewN HW3.out _⟩⟩
  ·have hT : impl_Decl_isRight.run [] L = true := impl_Decl_isRight.run_true L [] (fun i h => AN.out i h (by omega))
   have hk : kk = L.length := by omega
   subst hk
   have BKr := bb BK BW.out
   have b0 : wr.cell? ⟨g1, 0, none⟩ = some (.slice A0_0 l0_0.length c0_0) := (blk_cell BKr.out 0).trans rfl
   have b1 : wr.cell? ⟨g1, 1, none⟩ = some (.slice A0_1 l0_1.length c0_1) := (blk_cell BKr.out 1).trans rfl
   have b2 : wr.cell? ⟨g1, 2, none⟩ = some (.slice A0_2 l0_2.length c0_2) := (blk_cell BKr.out 2).trans rfl
   have HRR := Aside0.mk (Kd.C_below HR2.out BR.out)
   have HBB := BR
   have HTT := Aside0.mk hT
   clear hT AN HB BW BK HN HR0 HR1 HR2 BR BKr HS HTAB hkk hlt hg
   by_cases h5 : l0_0.length ≤ 5
   ·by_cases h3 : l0_1.length ≤ 3
    ·by_cases h2 : l0_2.length ≤ 2
     ·have h5' : ((l0_0.length : Nat) : Int) ≤ 5 := by omega
      have h3' : ((l0_1.length : Nat) : Int) ≤ 3 := by omega
      have h2' : ((l0_2.length : Nat) : Int) ≤ 2 := by omega
      have HA := Aside0.mk (impl_Decl_isRight.all A0_2 c0_2 l0_2 wr HRR.out h2)
      go_wp2_with (go_at_call 119; refine HA.out.mono ?_; rintro e w3 ⟨rfl, hb⟩; have HB3 := Aside0.mk (below_step HBB.out hb); clear hb)
      go_ret
      exact ⟨by first | rfl | (rw [HTT.out]; simp [h5, h3, h2]), HB3.out⟩
     ·have h5' : ((l0_0.length : Nat) : Int) ≤ 5 := by omega
      have h3' : ((l0_1.length : Nat) : Int) ≤ 3 := by omega
      have h2' : ¬ ((l0_2.length : Nat) : Int) ≤ 2 := by omega
      go_wp2
      go_ret
      exact ⟨by first | rfl | (rw [HTT.out]; simp [h2]), HBB.out⟩
    ·have h5' : ((l0_0.length : Nat) : Int) ≤ 5 := by omega
     have h3' : ¬ ((l0_1.length : Nat) : Int) ≤ 3 := by omega
     go_wp2
     go_ret
     exact ⟨by first | rfl | (rw [HTT.out]; simp [h3]), HBB.out⟩
   ·have h5' : ¬ ((l0_0.length : Nat) : Int) ≤ 5 := by omega
    go_wp2
    go_ret
    exact ⟨by first | rfl | (rw [HTT.out]; simp [h5]), HBB.out⟩

end Go.Proofs.YtcomagipdbdglaaDoor.Q
