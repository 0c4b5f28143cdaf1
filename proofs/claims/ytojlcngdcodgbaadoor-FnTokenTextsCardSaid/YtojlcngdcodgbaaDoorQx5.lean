-- Contracts of the program's functions, each with the plain function that it computes.
import Derived.Test.YtojlcngdcodgbaaDoorQx0
namespace Go.Proofs.YtojlcngdcodgbaaDoor.Q
open Go.RowKit Go.Proofs.YtojlcngdcodgbaaDoorW.PrintWords Go.Proofs.YtojlcngdcodgbaaDoorW.PrintLast Go.Proofs.YtojlcngdcodgbaaDoorW.PrintMore
attribute [local go_sem] max2_int min2_int max_two min_two max_three min_three max_four min_four   -- for this text's walks alone
set_option linter.unusedVariables false
set_option linter.unusedSimpArgs false

/-! ### impl_within: function 49 -/
def impl_within.f (a0 : Int) (a1 : Int) (a2 : Int) : Option (Bool) := if a1 ≤ a0 then (some (decide (a0 ≤ a2))) else (some false)
set_option maxHeartbeats 8000000 in
set_option maxRecDepth 100000 in
theorem impl_within.calls (a0 : Int) (a1 : Int) (a2 : Int) (r : Bool) (w : World) (h : impl_within.f a0 a1 a2 = some r) :
  Calls Tryd.prog 49 #[.int .i64 a0, .int .i64 a1, .int .i64 a2] w fun e w' => e = .returned (.bool r) ∧ Drawn0 w w' := by
 have H : (if a1 ≤ a0 then (some (decide (a0 ≤ a2))) else (some false)) = some r := h
 clear h
 by_cases c4 : a1 ≤ a0
 ·rw [if_pos c4] at H
  have c4b0 : decide (a1 ≤ a0) = true := decide_eq_true c4
  clear c4
  obtain rfl := Option.some.inj H
  go_enter Tryd.func49, Tryd.ntmps49
  go_wp2
  go_ret
  exact ⟨by first | rfl | (simp; done) | (simp [*]; done), by repeat (first | exact Drawn0.refl _ | apply Drawn0.step)⟩
 ·rw [if_neg c4] at H
  have c4b0 : decide (a1 ≤ a0) = false := decide_eq_false c4
  clear c4
  obtain rfl := Option.some.inj H
  go_enter Tryd.func49, Tryd.ntmps49
  go_wp2
  go_ret
  exact ⟨by first | rfl | (simp; done) | (simp [*]; done), by repeat (first | exact Drawn0.refl _ | apply Drawn0.step)⟩

/-! ### impl_entryOk: function 38 -/
def impl_entryOk.f (a0_0 : Int) (a0_1 : Int) : Option (Bool) := (impl_within.f a0_0 0 29).bind fun t117 => (if t117 = true then ((impl_within.f a0_1 0 4).bind fun t118 => (some t118)) else (some false))
set_option maxHeartbeats 8000000 in
set_option maxRecDepth 100000 in
theorem impl_entryOk.calls (a0_0 : Int) (a0_1 : Int) (r : Bool) (w : World) (h : impl_entryOk.f a0_0 a0_1 = some r) :
  Calls Tryd.prog 38 #[.agg #[.int .i64 a0_0, .int .i64 a0_1]] w fun e w' => e = .returned (.bool r) ∧ Below w.heap.size w w' := by
 have hu40 := Tryd.underlying40
 have HB := Aside0.mk (Below.refl w.heap.size w)
 have H : ((impl_within.f a0_0 0 29).bind fun t117 => (if t117 = true then ((impl_within.f a0_1 0 4).bind fun t118 => (some t118)) else (some false))) = some r := h
 clear h
 replace H := Option.bind_eq_some_iff.mp H
 obtain ⟨t117, A20, H⟩ := H
 replace H : (if t117 = true then ((impl_within.f a0_1 0 4).bind fun t118 => (some t118)) else (some false)) = some r := H
 have A2 := Aside0.mk A20
 clear A20
 by_cases c3 : t117 = true
 ·subst c3
  have H1 : ((impl_within.f a0_1 0 4).bind fun t118 => (some t118)) = some r := by rw [if_pos rfl] at H; exact H
  clear H
  have H := H1
  clear H1
  replace H := Option.bind_eq_some_iff.mp H
  obtain ⟨t118, A40, H⟩ := H
  replace H : (some t118) = some r := H
  have A4 := Aside0.mk A40
  clear A40
  obtain rfl := Option.some.inj H
  go_enter Tryd.func38, Tryd.ntmps38
  go_wp2_with (first | ((with_reducible refine gate_dst (N := 1) rfl ?_); refine box_event rfl rfl (cs := #[.int .i64 a0_0, .int .i64 a0_1]) (t := 40) (by first | (go_simp; done) | (go_simp; rfl)) ?_; intro gb116 hg w5 hbox hb; have BK116 := Aside0.mk (hbox); have GW116 := bz HB hg; have GE116 := bz HB hg; replace HB := bs HB hb; clear hb hbox hg; have hcz6_0 : w5.cell? ⟨gb116, 0, none⟩ = some (.int .i64 a0_0) := (blk_cell BK116.out 0).trans rfl; have hcz6_1 : w5.cell? ⟨gb116, 1, none⟩ = some (.int .i64 a0_1) := (blk_cell BK116.out 1).trans rfl; have hfz6_0 := blk_frozen BK116.out 0; have hfz6_1 := blk_frozen BK116.out 1) | ((with_reducible refine gate_callee (f := 49) rfl ?_); refine goesL_ (some 5) rfl rfl Tryd.func49 (by kernel_rfl) rfl #[.int .i64 a0_0, .int .i64 0, .int .i64 29] rfl (by (try simp only [List.map_toArray, List.map_cons, List.map_nil]); first | done | rfl | (simp only [List.length_drop, List.length_take]; rfl)) ?_; (with_reducible refine (impl_within.calls a0_0 0 29 true _ A2.out).mono ?_); rintro e w' ⟨rfl, ⟨nd, rfl⟩⟩; refine ⟨_, rfl, ?_⟩) | (go_at_call 49; (with_reducible refine (impl_within.calls a0_1 0 4 t118 _ A4.out).mono ?_); rintro e w' ⟨rfl, ⟨nd, rfl⟩⟩))
  go_ret
  exact ⟨by first | rfl | (simp [errW_none, errW_some] <;> rfl) | (simp [*, errW_none, errW_some] <;> rfl), bw HB⟩
 ·replace c3 := Bool.eq_false_iff.mpr c3
  subst c3
  have H1 : (some false) = some r := by rw [if_neg (show ¬ (false = true) by decide)] at H; exact H
  clear H
  have H := H1
  clear H1
  obtain rfl := Option.some.inj H
  go_enter Tryd.func38, Tryd.ntmps38
  go_wp2_with (first | ((with_reducible refine gate_dst (N := 1) rfl ?_); refine box_event rfl rfl (cs := #[.int .i64 a0_0, .int .i64 a0_1]) (t := 40) (by first | (go_simp; done) | (go_simp; rfl)) ?_; intro gb116 hg w7 hbox hb; have BK116 := Aside0.mk (hbox); have GW116 := bz HB hg; have GE116 := bz HB hg; replace HB := bs HB hb; clear hb hbox hg; have hcz8_0 : w7.cell? ⟨gb116, 0, none⟩ = some (.int .i64 a0_0) := (blk_cell BK116.out 0).trans rfl; have hcz8_1 : w7.cell? ⟨gb116, 1, none⟩ = some (.int .i64 a0_1) := (blk_cell BK116.out 1).trans rfl; have hfz8_0 := blk_frozen BK116.out 0; have hfz8_1 := blk_frozen BK116.out 1) | ((with_reducible refine gate_callee (f := 49) rfl ?_); refine goesL_ (some 5) rfl rfl Tryd.func49 (by kernel_rfl) rfl #[.int .i64 a0_0, .int .i64 0, .int .i64 29] rfl (by (try simp only [List.map_toArray, List.map_cons, List.map_nil]); first | done | rfl | (simp only [List.length_drop, List.length_take]; rfl)) ?_; (with_reducible refine (impl_within.calls a0_0 0 29 false _ A2.out).mono ?_); rintro e w' ⟨rfl, ⟨nd, rfl⟩⟩; refine ⟨_, rfl, ?_⟩))
  go_ret
  exact ⟨by first | rfl | (simp [errW_none, errW_some] <;> rfl) | (simp [*, errW_none, errW_some] <;> rfl), bw HB⟩

/-! ### impl_TokenOk: function 20 -/
def impl_TokenOk.ok (x : S40) : Bool := decide (0 ≤ x.f0 ∧ x.f0 ≤ 29) && decide (0 ≤ x.f1 ∧ x.f1 ≤ 4)
def impl_TokenOk.f (l0 : List (S40)) : Option (Bool) := some (decide (l0.length ≤ 3) && l0.all impl_TokenOk.ok)
theorem impl_TokenOk.entry (x : S40) (W : World) : Calls Tryd.prog 38 #[.agg #[.int .i64 x.f0, .int .i64 x.f1]] W fun e w' => e = .returned (.bool (impl_TokenOk.ok x)) ∧ Below W.heap.size W w' :=
 impl_entryOk.calls x.f0 x.f1 _ W (by
  unfold impl_entryOk.f impl_within.f impl_TokenOk.ok
  by_cases h1 : 0 ≤ x.f0 <;> by_cases h2 : x.f0 ≤ 29 <;> by_cases h3 : 0 ≤ x.f1 <;> by_cases h4 : x.f1 ≤ 4 <;> simp [h1, h2, h3, h4])
/-- The closure of areAll: not what it was made of. -/
theorem impl_TokenOk.closure (x : S40) (B : Nat) (W : World) (hB : B < W.heap.size) (hc : W.cell? ⟨B, 0, none⟩ = some (.func (.func 38) #[] #[])) :
  Calls Tryd.prog 48 #[.agg #[.int .i64 x.f0, .int .i64 x.f1], .pointer (some ⟨B, 0, none⟩)] W fun e w' => e = .returned (.bool (!impl_TokenOk.ok x)) ∧ Below W.heap.size W w' := by
 have eg : ∀ args w, (callFunc 38 args).run Tryd.prog w = .ok (.enter 38 args) w := enters_of Tryd.func38 (by kernel_rfl) rfl
 have hne : B ≠ W.heap.size := by omega
 have HE := Aside0.mk (impl_TokenOk.entry x)
 go_enter Tryd.func48, Tryd.ntmps48
 go_wp2_with fail
 refine (HE.out _).mono ?_
 rintro e w1 ⟨rfl, hb⟩
 have HB := Aside0.mk hb
 clear hb
 go_wp2
 go_ret
 exact ⟨rfl, ((Below.refl _ W).alloc (Nat.le_refl _) _).trans (HB.out.mono (by simp))⟩
set_option maxHeartbeats 2000000 in
theorem impl_TokenOk.index (p : S40 → Bool) (g : Nat) (lb : Array Value) (eg : ∀ args w, (callFunc g args).run Tryd.prog w = .ok (.enter g args) w) (A : Option Addr) (c : Nat) (l : List (S40)) (w : World)
  (hp : ∀ (W : World) (x : S40), Below w.heap.size w W → Calls Tryd.prog g (#[.agg #[.int .i64 x.f0, .int .i64 x.f1]] ++ lb) W fun e w' => e = .returned (.bool (p x)) ∧ Below w.heap.size w w')
  (hr : Kd.C k40 w A l.length l) (hl : l.length ≤ 3) :
  Calls Tryd.prog 63 #[.slice A l.length c, .func (.func g) #[] lb] w fun e w' => ∃ n : Int, e = .returned (.int .i64 n) ∧ (decide (0 ≤ n) = l.any p) ∧ Below w.heap.size w w' := by
 have HP := Aside0.mk hp
 have HR := Aside0.mk hr
 clear hp hr
 go_enter Tryd.func63, Tryd.ntmps63
 go_wp2
 go_loopg [5, 8] l.length (fun gg _ s8 wr => ∃ kk : Nat, kk ≤ l.length ∧ l.length - kk ≤ gg ∧ s8 = .int .i64 kk ∧ Aside0 (Below w.heap.size w wr) ∧ Aside0 ((l.take kk).any p = false))
 case atStart => exact ⟨0, Nat.zero_le _, by omega, rfl, ⟨Below.refl _ w⟩, ⟨by simp⟩⟩
 case round =>
  obtain ⟨kk, hkk, hg, rfl, BW, AN⟩ := hrel
  by_cases hlt : kk < l.length
  ·obtain ⟨ad, rfl, y0, y1⟩ := at_T40 HR.out (kk : Int) (by omega) (by omega)
   have z0 := (BW.out.cell (World.block_lt_of_cell? w _ y0)).trans y0
   have z1 := (BW.out.cell (World.block_lt_of_cell? w _ y1)).trans y1
   simp only [Int.toNat_natCast] at z0 z1
   clear y0 y1
   have e : (rd_T40 l (kk : Int)) = l[kk] := by unfold rd_T40; simp [List.getD_eq_getElem?_getD, hlt]
   rw [e] at z0 z1
   clear e
   have hcall := HP.out wr l[kk] BW.out
   have ht : (l.take (kk + 1)).any p = p l[kk] := by rw [List.take_succ_eq_append_getElem hlt, List.any_append, AN.out]; simp
   have hsplit : l.any p = ((l.take (kk + 1)).any p || (l.drop (kk + 1)).any p) := by rw [← List.any_append, List.take_append_drop]
   have HT := Aside0.mk ht
   have HS := Aside0.mk hsplit
   clear ht hsplit
   generalize l[kk] = x at z0 z1 hcall HT
   cases hq : p x with
   | true =>
    rw [hq] at hcall
    have HQ := Aside0.mk hq
    clear hq
    go_wp2_with (go_at_fn g; refine hcall.mono ?_; rintro e w' ⟨rfl, hb'⟩)
    go_ret
    exact ⟨_, rfl, by rw [HS.out, HT.out, HQ.out]; simp, hb'⟩
   | false =>
    rw [hq] at hcall
    have HQ := Aside0.mk hq
    clear hq
    go_wp2_with (go_at_fn g; refine hcall.mono ?_; rintro e w' ⟨rfl, hb'⟩)
    go_roundg (l.length - (kk + 1))
    case measure => omega
    case rel => exact ⟨kk + 1, by omega, by omega, by go_num, ⟨hb'⟩, ⟨by rw [HT.out, HQ.out]⟩⟩
  ·have : kk = l.length := by omega
   subst this
   have HA := AN
   have HB := BW
   clear AN BW
   go_wp2
   go_ret
   exact ⟨_, rfl, by have := HA.out; rw [List.take_length] at this; rw [this]; simp, HB.out⟩
theorem impl_TokenOk.contains (p : S40 → Bool) (g : Nat) (lb : Array Value) (eg : ∀ args w, (callFunc g args).run Tryd.prog w = .ok (.enter g args) w) (A : Option Addr) (c : Nat) (l : List (S40)) (w : World)
  (hp : ∀ (W : World) (x : S40), Below w.heap.size w W → Calls Tryd.prog g (#[.agg #[.int .i64 x.f0, .int .i64 x.f1]] ++ lb) W fun e w' => e = .returned (.bool (p x)) ∧ Below w.heap.size w w')
  (hr : Kd.C k40 w A l.length l) (hl : l.length ≤ 3) :
  Calls Tryd.prog 47 #[.slice A l.length c, .func (.func g) #[] lb] w fun e w' => e = .returned (.bool (l.any p)) ∧ Below w.heap.size w w' := by
 have HI := Aside0.mk (impl_TokenOk.index p g lb eg A c l w hp hr hl)
 clear hp hr
 go_enter Tryd.func47, Tryd.ntmps47
 go_wp2_with fail
 refine HI.out.mono ?_
 rintro e w1 ⟨n, rfl, hn, hb⟩
 have HN := Aside0.mk hn
 have HB := Aside0.mk hb
 clear hn hb
 by_cases h : 0 ≤ n
 all_goals
  go_wp2
  go_ret
  exact ⟨by rw [← HN.out]; simp [h], HB.out⟩
theorem impl_TokenOk.all (A : Option Addr) (c : Nat) (l : List (S40)) (w : World) (hr : Kd.C k40 w A l.length l) (hl : l.length ≤ 3) :
  Calls Tryd.prog 37 #[.slice A l.length c, .func (.func 38) #[] #[]] w fun e w' => e = .returned (.bool (l.all impl_TokenOk.ok)) ∧ Below w.heap.size w w' := by
 have eg : ∀ args w, (callFunc 48 args).run Tryd.prog w = .ok (.enter 48 args) w := enters_of Tryd.func48 (by kernel_rfl) rfl
 have hb0 : Below w.heap.size w (w.alloc (.cells #[.func (.func 38) #[] #[]] 61)) := (Below.refl _ w).alloc (Nat.le_refl _) _
 have HC := Aside0.mk (impl_TokenOk.contains (fun x => !impl_TokenOk.ok x) 48 #[.pointer (some ⟨w.heap.size, 0, none⟩)] eg A c l (w.alloc (.cells #[.func (.func 38) #[] #[]] 61))
  (fun W x hb => (impl_TokenOk.closure x w.heap.size W (by have := hb.size; simp at this; omega) ((hb.cell (p := ⟨w.heap.size, 0, none⟩) (by simp)).trans (by simp))).mono fun e w' h => ⟨h.1, below_then hb hb.size h.2⟩)
  (Kd.C_below hr hb0) hl)
 have HB0 := Aside0.mk hb0
 clear hb0 hr
 go_enter Tryd.func37, Tryd.ntmps37
 go_wp2_with fail
 refine HC.out.mono ?_
 rintro e w1 ⟨rfl, hb⟩
 have HB := Aside0.mk hb
 clear hb
 go_wp2
 go_ret
 exact ⟨by rw [List.any_eq_not_all_not]; simp, below_then HB0.out (by simp) HB.out⟩
theorem impl_TokenOk.calls (A0 : Option Addr) (c0 : Nat) (l0 : List (S40)) (r : Bool) (w : World) (hr0 : Kd.C k40 w A0 l0.length l0) (hc0 : l0.length ≤ c0) (h : impl_TokenOk.f l0 = some r) :
  Calls Tryd.prog 20 #[.slice A0 l0.length c0] w fun e w' => e = .returned (.bool r) ∧ Below w.heap.size w w' := by
 have hv := Option.some.inj h
 subst hv
 by_cases hl : l0.length ≤ 3
 ·have HA := Aside0.mk (impl_TokenOk.all A0 c0 l0 w hr0 hl)
  have hl' : ((l0.length : Nat) : Int) ≤ 3 := by omega
  go_enter Tryd.func20, Tryd.ntmps20
  go_wp2_with fail
  refine HA.out.mono ?_
  rintro e w1 ⟨rfl, hb⟩
  have HB := Aside0.mk hb
  clear hb
  go_wp2
  go_ret
  exact ⟨by simp [hl], HB.out⟩
 ·have hl' : ¬ ((l0.length : Nat) : Int) ≤ 3 := by omega
  go_enter Tryd.func20, Tryd.ntmps20
  go_wp2
  go_ret
  exact ⟨by simp [hl], Below.refl _ _⟩

end Go.Proofs.YtojlcngdcodgbaaDoor.Q
