-- Contracts of the program's functions, each with the plain function that it computes.
import Derived.Test.YtcomagipdbdglaaDoorQx0
import Derived.Test.YtcomagipdbdglaaDoorQx21
import Derived.Test.YtcomagipdbdglaaDoorQx22
namespace Go.Proofs.YtcomagipdbdglaaDoor.Q
open Go.RowKit Go.Proofs.YtcomagipdbdglaaDoorW.PrintWords Go.Proofs.YtcomagipdbdglaaDoorW.PrintLast Go.Proofs.YtcomagipdbdglaaDoorW.PrintMore
attribute [local go_sem] max2_int min2_int max_two min_two max_three min_three max_four min_four   -- for this text's walks alone
set_option linter.unusedVariables false
set_option linter.unusedSimpArgs false

/-! ### impl_Decl_isEnv: function 65 -/
def impl_Decl_isEnv.ivB (x : S78) : Bool := decide (x.f0 ≤ x.f1)
def impl_Decl_isEnv.ok (l0 : List ByteArray) (l2 : List S91) (a : Bool) (m1 : List S78) (m2 : List S78) : Bool := if a = true then decide (m1.length = l0.length) && decide (m2.length = l2.length) && m1.all impl_Decl_isEnv.ivB && m2.all impl_Decl_isEnv.ivB else decide (m1.length = 0) && decide (m2.length = 0)
def impl_Decl_isEnv.f (l0 : List ByteArray) (l1 : List ByteArray) (l2 : List S91) (a : Bool) (m1 : List S78) (m2 : List S78) : Option Bool := if m1.length < 4398046511104 ∧ m2.length < 4398046511104 then some (impl_Decl_isEnv.ok l0 l2 a m1 m2) else none
theorem impl_Decl_isEnv.entry (x : S78) (W : World) : Calls Tryd.prog 105 #[.agg #[.int .i64 x.f0, .int .i64 x.f1]] W fun e w' => e = .returned (.bool (impl_Decl_isEnv.ivB x)) ∧ Below W.heap.size W w' :=
 impl_IvOk.calls x.f0 x.f1 _ W rfl
/-- The closure of areAll: not what it was made of. -/
theorem impl_Decl_isEnv.closure (x : S78) (B : Nat) (W : World) (hB : B < W.heap.size) (hc : W.cell? ⟨B, 0, none⟩ = some (.func (.func 105) #[] #[])) :
  Calls Tryd.prog 152 #[.agg #[.int .i64 x.f0, .int .i64 x.f1], .pointer (some ⟨B, 0, none⟩)] W fun e w' => e = .returned (.bool (!impl_Decl_isEnv.ivB x)) ∧ Below W.heap.size W w' := by
 have eg : ∀ args w, (callFunc 105 args).run Tryd.prog w = .ok (.enter 105 args) w := enters_of Tryd.func105 (by kernel_rfl) rfl
 have hne : B ≠ W.heap.size := by omega
 have HE := Aside0.mk (impl_Decl_isEnv.entry x)
 go_enter Tryd.func152, Tryd.ntmps152
 go_wp2_with fail
 refine (HE.out _).mono ?_
 rintro e w1 ⟨rfl, hb⟩
 have HB := Aside0.mk hb
 clear hb
 go_wp2
 go_ret
 exact ⟨rfl, ((Below.refl _ W).alloc (Nat.le_refl _) _).trans (HB.out.mono (by simp))⟩
set_option maxHeartbeats 2000000 in
theorem impl_Decl_isEnv.index (p : S78 → Bool) (g : Nat) (lb : Array Value) (eg : ∀ args w, (callFunc g args).run Tryd.prog w = .ok (.enter g args) w) (A : Option Addr) (c : Nat) (l : List (S78)) (w : World)
  (hp : ∀ (W : World) (x : S78), Below w.heap.size w W → Calls Tryd.prog g (#[.agg #[.int .i64 x.f0, .int .i64 x.f1]] ++ lb) W fun e w' => e = .returned (.bool (p x)) ∧ Below w.heap.size w w')
  (hr : Kd.C k78 w A l.length l) (hl : l.length < 4398046511104) :
  Calls Tryd.prog 164 #[.slice A l.length c, .func (.func g) #[] lb] w fun e w' => ∃ n : Int, e = .returned (.int .i64 n) ∧ (decide (0 ≤ n) = l.any p) ∧ Below w.heap.size w w' := by
 have HP := Aside0.mk hp
 have HR := Aside0.mk hr
 clear hp hr
 go_enter Tryd.func164, Tryd.ntmps164
 go_wp2
 go_loopg [5, 8] l.length (fun gg _ s8 wr => ∃ kk : Nat, kk ≤ l.length ∧ l.length - kk ≤ gg ∧ s8 = .int .i64 kk ∧ Aside0 (Below w.heap.size w wr) ∧ Aside0 ((l.take kk).any p = false))
 case atStart => exact ⟨0, Nat.zero_le _, by omega, rfl, ⟨Below.refl _ w⟩, ⟨by simp⟩⟩
 case round =>
  obtain ⟨kk, hkk, hg, rfl, BW, AN⟩ := hrel
  by_cases hlt : kk < l.length
  ·obtain ⟨ad, rfl, y0, y1⟩ := at_T78 HR.out (kk : Int) (by omega) (by omega)
   have z0 := (BW.out.cell (World.block_lt_of_cell? w _ y0)).trans y0
   have z1 := (BW.out.cell (World.block_lt_of_cell? w _ y1)).trans y1
   simp only [Int.toNat_natCast] at z0 z1
   clear y0 y1
   have e : (rd_T78 l (kk : Int)) = l[kk] := by unfold rd_T78; simp [List.getD_eq_getElem?_getD, hlt]
   rw [e] at z0 z1
   clear e
   have hcall := HP.out wr l[kk] BW.out
   have ht : (l.take (kk + 1)).any p = p l[kk] := by rw [List.take_succ_eq_append_getElem hlt, List.any_append, AN.out]; simp
   have hsplit : l.any p = ((l.take (kk + 1)).any p || (l.drop (kk + 1)).any p) := by rw [← List.any_append, List.take_append_drop]
   have HT := Aside0.mk ht
   have HS := Aside0.mk hsplit
   clear ht hsplit
   generalize l[kk] = x at z0 z1 hcall HT
   cases hq : p x with
   | true =>
    rw [hq] at hcall
    have HQ := Aside0.mk hq
    clear hq
    go_wp2_with (go_at_fn g; refine hcall.mono ?_; rintro e w' ⟨rfl, hb'⟩)
    go_ret
    exact ⟨_, rfl, by rw [HS.out, HT.out, HQ.out]; simp, hb'⟩
   | false =>
    rw [hq] at hcall
    have HQ := Aside0.mk hq
    clear hq
    go_wp2_with (go_at_fn g; refine hcall.mono ?_; rintro e w' ⟨rfl, hb'⟩)
    go_roundg (l.length - (kk + 1))
    case measure => omega
    case rel => exact ⟨kk + 1, by omega, by omega, by first | go_num | rw [impl_Decl_isRight.w1 kk (by omega)], ⟨hb'⟩, ⟨by rw [HT.out, HQ.out]⟩⟩
  ·have : kk = l.length := by omega
   subst this
   have HA := AN
   have HB := BW
   clear AN BW
   go_wp2
   go_ret
   exact ⟨_, rfl, by have := HA.out; rw [List.take_length] at this; rw [this]; simp, HB.out⟩
theorem impl_Decl_isEnv.contains (p : S78 → Bool) (g : Nat) (lb : Array Value) (eg : ∀ args w, (callFunc g args).run Tryd.prog w = .ok (.enter g args) w) (A : Option Addr) (c : Nat) (l : List (S78)) (w : World)
  (hp : ∀ (W : World) (x : S78), Below w.heap.size w W → Calls Tryd.prog g (#[.agg #[.int .i64 x.f0, .int .i64 x.f1]] ++ lb) W fun e w' => e = .returned (.bool (p x)) ∧ Below w.heap.size w w')
  (hr : Kd.C k78 w A l.length l) (hl : l.length < 4398046511104) :
  Calls Tryd.prog 151 #[.slice A l.length c, .func (.func g) #[] lb] w fun e w' => e = .returned (.bool (l.any p)) ∧ Below w.heap.size w w' := by
 have HI := Aside0.mk (impl_Decl_isEnv.index p g lb eg A c l w hp hr hl)
 clear hp hr
 go_enter Tryd.func151, Tryd.ntmps151
 go_wp2_with fail
 refine HI.out.mono ?_
 rintro e w1 ⟨n, rfl, hn, hb⟩
 have HN := Aside0.mk hn
 have HB := Aside0.mk hb
 clear hn hb
 by_cases h : 0 ≤ n
 all_goals
  go_wp2
  go_ret
  exact ⟨by rw [← HN.out]; simp [h], HB.out⟩
theorem impl_Decl_isEnv.all (A : Option Addr) (c : Nat) (l : List (S78)) (w : World) (hr : Kd.C k78 w A l.length l) (hl : l.length < 4398046511104) :
  Calls Tryd.prog 122 #[.slice A l.length c, .func (.func 105) #[] #[]] w fun e w' => e = .returned (.bool (l.all impl_Decl_isEnv.ivB)) ∧ Below w.heap.size w w' := by
 have eg : ∀ args w, (callFunc 152 args).run Tryd.prog w = .ok (.enter 152 args) w := enters_of Tryd.func152 (by kernel_rfl) rfl
 have hb0 : Below w.heap.size w (w.alloc (.cells #[.func (.func 105) #[] #[]] 101)) := (Below.refl _ w).alloc (Nat.le_refl _) _
 have HC := Aside0.mk (impl_Decl_isEnv.contains (fun x => !impl_Decl_isEnv.ivB x) 152 #[.pointer (some ⟨w.heap.size, 0, none⟩)] eg A c l (w.alloc (.cells #[.func (.func 105) #[] #[]] 101))
  (fun W x hb => (impl_Decl_isEnv.closure x w.heap.size W (by have := hb.size; simp at this; omega) ((hb.cell (p := ⟨w.heap.size, 0, none⟩) (by simp)).trans (by simp))).mono fun e w' h => ⟨h.1, below_then hb hb.size h.2⟩)
  (Kd.C_below hr hb0) hl)
 have HB0 := Aside0.mk hb0
 clear hb0 hr
 go_enter Tryd.func122, Tryd.ntmps122
 go_wp2_with fail
 refine HC.out.mono ?_
 rintro e w1 ⟨rfl, hb⟩
 have HB := Aside0.mk hb
 clear hb
 go_wp2
 go_ret
 exact ⟨by rw [List.any_eq_not_all_not]; simp, below_then HB0.out (by simp) HB.out⟩
set_option maxHeartbeats 4000000 in
set_option maxRecDepth 100000 in
theorem impl_Decl_isEnv.calls (A0_0 : Option Addr) (c0_0 : Nat) (l0_0 : List ByteArray) (A0_1 : Option Addr) (c0_1 : Nat) (l0_1 : List ByteArray) (A0_2 : Option Addr) (c0_2 : Nat) (l0_2 : List S91) (a1_0 : Bool) (A1_1 : Option Addr) (c1_1 : Nat) (l1_1 : List S78) (A1_2 : Option Addr) (c1_2 : Nat) (l1_2 : List S78) (r : Bool) (w : World) (hr0_0 : Kd.C Kd.string w A0_0 l0_0.length l0_0) (hc0_0 : l0_0.length ≤ c0_0) (hr0_1 : Kd.C Kd.string w A0_1 l0_1.length l0_1) (hc0_1 : l0_1.length ≤ c0_1) (hr0_2 : Kd.C k91 w A0_2 l0_2.length l0_2) (hc0_2 : l0_2.length ≤ c0_2) (hr1_1 : Kd.C k78 w A1_1 l1_1.length l1_1) (hc1_1 : l1_1.length ≤ c1_1) (hr1_2 : Kd.C k78 w A1_2 l1_2.length l1_2) (hc1_2 : l1_2.length ≤ c1_2) (h : impl_Decl_isEnv.f l0_0 l0_1 l0_2 a1_0 l1_1 l1_2 = some r) :
  Calls Tryd.prog 65 #[.agg #[.slice A0_0 l0_0.length c0_0, .slice A0_1 l0_1.length c0_1, .slice A0_2 l0_2.length c0_2], .agg #[.bool a1_0, .slice A1_1 l1_1.length c1_1, .slice A1_2 l1_2.length c1_2]] w fun e w' => e = .returned (.bool r) ∧ Below w.heap.size w w' := by
 unfold impl_Decl_isEnv.f at h
 split at h
 case isFalse => exact absurd h (by simp)
 rename_i hl
 obtain rfl := Option.some.inj h
 clear h
 have HR1 := Aside0.mk hr1_1
 have HR2 := Aside0.mk hr1_2
 have HL1 := Aside0.mk hl.1
 have HL2 := Aside0.mk hl.2
 have HB := Aside0.mk (Below.refl w.heap.size w)
 clear hr0_0 hr0_1 hr0_2 hr1_1 hr1_2 hl hc0_0 hc0_1 hc0_2 hc1_1 hc1_2
 unfold impl_Decl_isEnv.ok
 cases a1_0 with
 | false =>
  by_cases h1 : l1_1.length = 0
  ·by_cases h2 : l1_2.length = 0
   ·have k1 : (((l1_1.length : Nat) : Int) == 0) = true := by simp [h1]
    have k2 : (((l1_2.length : Nat) : Int) == 0) = true := by simp [h2]
    have H1 := Aside0.mk h1
    have H2 := Aside0.mk h2
    clear h1 h2
    go_enter Tryd.func65, Tryd.ntmps65
    go_wp2_with (first
     | ((with_reducible refine gate_dst (N := 2) rfl ?_); refine box_event rfl rfl (cs := #[.slice A0_0 l0_0.length c0_0, .slice A0_1 l0_1.length c0_1, .slice A0_2 l0_2.length c0_2]) (t := 30) (by first | (go_simp; done) | (go_simp; rfl)) ?_; intro g1 hg w1 hbox hb; replace HB := bs HB hb; have BK := Aside0.mk hbox; clear hg hbox hb)
     | ((with_reducible refine gate_dst (N := 3) rfl ?_); refine box_event rfl rfl (cs := #[.bool false, .slice A1_1 l1_1.length c1_1, .slice A1_2 l1_2.length c1_2]) (t := 41) (by first | (go_simp; done) | (go_simp; rfl)) ?_; intro g2 hg w2 hbox hb; replace BK := bb BK hb; replace HB := bs HB hb; have EK := Aside0.mk hbox; have b0 : w2.cell? ⟨g1, 0, none⟩ = some (.slice A0_0 l0_0.length c0_0) := (blk_cell BK.out 0).trans rfl; have b2 : w2.cell? ⟨g1, 2, none⟩ = some (.slice A0_2 l0_2.length c0_2) := (blk_cell BK.out 2).trans rfl; have e0 : w2.cell? ⟨g2, 0, none⟩ = some (.bool false) := (blk_cell EK.out 0).trans rfl; have e1 : w2.cell? ⟨g2, 1, none⟩ = some (.slice A1_1 l1_1.length c1_1) := (blk_cell EK.out 1).trans rfl; have e2 : w2.cell? ⟨g2, 2, none⟩ = some (.slice A1_2 l1_2.length c1_2) := (blk_cell EK.out 2).trans rfl; clear hg hbox hb))
    go_ret
    exact ⟨by simp [List.length_eq_zero_iff.mp H1.out, List.length_eq_zero_iff.mp H2.out], bw HB⟩
   ·have k1 : (((l1_1.length : Nat) : Int) == 0) = true := by simp [h1]
    have k2 : (((l1_2.length : Nat) : Int) == 0) = false := beq_eq_false_iff_ne.mpr (by omega)
    have H2 := Aside0.mk h2
    clear h1 h2
    go_enter Tryd.func65, Tryd.ntmps65
    go_wp2_with (first
     | ((with_reducible refine gate_dst (N := 2) rfl ?_); refine box_event rfl rfl (cs := #[.slice A0_0 l0_0.length c0_0, .slice A0_1 l0_1.length c0_1, .slice A0_2 l0_2.length c0_2]) (t := 30) (by first | (go_simp; done) | (go_simp; rfl)) ?_; intro g1 hg w1 hbox hb; replace HB := bs HB hb; have BK := Aside0.mk hbox; clear hg hbox hb)
     | ((with_reducible refine gate_dst (N := 3) rfl ?_); refine box_event rfl rfl (cs := #[.bool false, .slice A1_1 l1_1.length c1_1, .slice A1_2 l1_2.length c1_2]) (t := 41) (by first | (go_simp; done) | (go_simp; rfl)) ?_; intro g2 hg w2 hbox hb; replace BK := bb BK hb; replace HB := bs HB hb; have EK := Aside0.mk hbox; have b0 : w2.cell? ⟨g1, 0, none⟩ = some (.slice A0_0 l0_0.length c0_0) := (blk_cell BK.out 0).trans rfl; have b2 : w2.cell? ⟨g1, 2, none⟩ = some (.slice A0_2 l0_2.length c0_2) := (blk_cell BK.out 2).trans rfl; have e0 : w2.cell? ⟨g2, 0, none⟩ = some (.bool false) := (blk_cell EK.out 0).trans rfl; have e1 : w2.cell? ⟨g2, 1, none⟩ = some (.slice A1_1 l1_1.length c1_1) := (blk_cell EK.out 1).trans rfl; have e2 : w2.cell? ⟨g2, 2, none⟩ = some (.slice A1_2 l1_2.length c1_2) := (blk_cell EK.out 2).trans rfl; clear hg hbox hb))
    go_ret
    exact ⟨by simp; intro _ h; exact H2.out (by simp [h]), bw HB⟩
  ·have k1 : (((l1_1.length : Nat) : Int) == 0) = false := beq_eq_false_iff_ne.mpr (by omega)
   have H1 := Aside0.mk h1
   clear h1
   go_enter Tryd.func65, Tryd.ntmps65
   go_wp2_with (first
    | ((with_reducible refine gate_dst (N := 2) rfl ?_); refine box_event rfl rfl (cs := #[.slice A0_0 l0_0.length c0_0, .slice A0_1 l0_1.length c0_1, .slice A0_2 l0_2.length c0_2]) (t := 30) (by first | (go_simp; done) | (go_simp; rfl)) ?_; intro g1 hg w1 hbox hb; replace HB := bs HB hb; have BK := Aside0.mk hbox; clear hg hbox hb)
    | ((with_reducible refine gate_dst (N := 3) rfl ?_); refine box_event rfl rfl (cs := #[.bool false, .slice A1_1 l1_1.length c1_1, .slice A1_2 l1_2.length c1_2]) (t := 41) (by first | (go_simp; done) | (go_simp; rfl)) ?_; intro g2 hg w2 hbox hb; replace BK := bb BK hb; replace HB := bs HB hb; have EK := Aside0.mk hbox; have b0 : w2.cell? ⟨g1, 0, none⟩ = some (.slice A0_0 l0_0.length c0_0) := (blk_cell BK.out 0).trans rfl; have b2 : w2.cell? ⟨g1, 2, none⟩ = some (.slice A0_2 l0_2.length c0_2) := (blk_cell BK.out 2).trans rfl; have e0 : w2.cell? ⟨g2, 0, none⟩ = some (.bool false) := (blk_cell EK.out 0).trans rfl; have e1 : w2.cell? ⟨g2, 1, none⟩ = some (.slice A1_1 l1_1.length c1_1) := (blk_cell EK.out 1).trans rfl; have e2 : w2.cell? ⟨g2, 2, none⟩ = some (.slice A1_2 l1_2.length c1_2) := (blk_cell EK.out 2).trans rfl; clear hg hbox hb))
   go_ret
   exact ⟨by simp; intro h; exact absurd (by simp [h]) H1.out, bw HB⟩
 | true =>
  by_cases h1 : l1_1.length = l0_0.length
  ·by_cases h2 : l1_2.length = l0_2.length
   ·have k1 : (((l1_1.length : Nat) : Int) == ((l0_0.length : Nat) : Int)) = true := by simp [h1]
    have k2 : (((l1_2.length : Nat) : Int) == ((l0_2.length : Nat) : Int)) = true := by simp [h2]
    have H1 := Aside0.mk h1
    have H2 := Aside0.mk h2
    clear h1 h2
    go_enter Tryd.func65, Tryd.ntmps65
    go_wp2_with (first
     | ((with_reducible refine gate_dst (N := 2) rfl ?_); refine box_event rfl rfl (cs := #[.slice A0_0 l0_0.length c0_0, .slice A0_1 l0_1.length c0_1, .slice A0_2 l0_2.length c0_2]) (t := 30) (by first | (go_simp; done) | (go_simp; rfl)) ?_; intro g1 hg w1 hbox hb; replace HB := bs HB hb; have BK := Aside0.mk hbox; clear hg hbox hb)
     | ((with_reducible refine gate_dst (N := 3) rfl ?_); refine box_event rfl rfl (cs := #[.bool true, .slice A1_1 l1_1.length c1_1, .slice A1_2 l1_2.length c1_2]) (t := 41) (by first | (go_simp; done) | (go_simp; rfl)) ?_; intro g2 hg w2 hbox hb; replace BK := bb BK hb; replace HB := bs HB hb; have EK := Aside0.mk hbox; have b0 : w2.cell? ⟨g1, 0, none⟩ = some (.slice A0_0 l0_0.length c0_0) := (blk_cell BK.out 0).trans rfl; have b2 : w2.cell? ⟨g1, 2, none⟩ = some (.slice A0_2 l0_2.length c0_2) := (blk_cell BK.out 2).trans rfl; have e0 : w2.cell? ⟨g2, 0, none⟩ = some (.bool true) := (blk_cell EK.out 0).trans rfl; have e1 : w2.cell? ⟨g2, 1, none⟩ = some (.slice A1_1 l1_1.length c1_1) := (blk_cell EK.out 1).trans rfl; have e2 : w2.cell? ⟨g2, 2, none⟩ = some (.slice A1_2 l1_2.length c1_2) := (blk_cell EK.out 2).trans rfl; clear hg hbox hb)
     | (go_at_call 122; fail))
    refine (impl_Decl_isEnv.all A1_1 c1_1 l1_1 _ (Kd.C_below HR1.out (bw HB)) HL1.out).mono ?_
    rintro e w3 ⟨rfl, hb⟩
    replace EK := bb EK hb
    replace HB := bs HB hb
    clear b0 b2 e0 e1 e2 hb
    have e2 : w3.cell? ⟨g2, 2, none⟩ = some (.slice A1_2 l1_2.length c1_2) := (blk_cell EK.out 2).trans rfl
    cases hq : l1_1.all impl_Decl_isEnv.ivB with
    | false =>
     have HQ := Aside0.mk hq
     clear hq
     go_wp2
     go_ret
     exact ⟨by simp [-List.length_eq_zero_iff, HQ.out], bw HB⟩
    | true =>
     have HQ := Aside0.mk hq
     clear hq
     go_wp2_with fail
     refine (impl_Decl_isEnv.all A1_2 c1_2 l1_2 _ (Kd.C_below HR2.out (bw HB)) HL2.out).mono ?_
     rintro e w4 ⟨rfl, hb⟩
     replace HB := bs HB hb
     clear hb
     go_wp2
     go_ret
     exact ⟨by simp [-List.length_eq_zero_iff, H1.out, H2.out, HQ.out], bw HB⟩
   ·have k1 : (((l1_1.length : Nat) : Int) == ((l0_0.length : Nat) : Int)) = true := by simp [h1]
    have k2 : (((l1_2.length : Nat) : Int) == ((l0_2.length : Nat) : Int)) = false := beq_eq_false_iff_ne.mpr (by omega)
    have H2 := Aside0.mk h2
    clear h1 h2
    go_enter Tryd.func65, Tryd.ntmps65
    go_wp2_with (first
     | ((with_reducible refine gate_dst (N := 2) rfl ?_); refine box_event rfl rfl (cs := #[.slice A0_0 l0_0.length c0_0, .slice A0_1 l0_1.length c0_1, .slice A0_2 l0_2.length c0_2]) (t := 30) (by first | (go_simp; done) | (go_simp; rfl)) ?_; intro g1 hg w1 hbox hb; replace HB := bs HB hb; have BK := Aside0.mk hbox; clear hg hbox hb)
     | ((with_reducible refine gate_dst (N := 3) rfl ?_); refine box_event rfl rfl (cs := #[.bool true, .slice A1_1 l1_1.length c1_1, .slice A1_2 l1_2.length c1_2]) (t := 41) (by first | (go_simp; done) | (go_simp; rfl)) ?_; intro g2 hg w2 hbox hb; replace BK := bb BK hb; replace HB := bs HB hb; have EK := Aside0.mk hbox; have b0 : w2.cell? ⟨g1, 0, none⟩ = some (.slice A0_0 l0_0.length c0_0) := (blk_cell BK.out 0).trans rfl; have b2 : w2.cell? ⟨g1, 2, none⟩ = some (.slice A0_2 l0_2.length c0_2) := (blk_cell BK.out 2).trans rfl; have e0 : w2.cell? ⟨g2, 0, none⟩ = some (.bool true) := (blk_cell EK.out 0).trans rfl; have e1 : w2.cell? ⟨g2, 1, none⟩ = some (.slice A1_1 l1_1.length c1_1) := (blk_cell EK.out 1).trans rfl; have e2 : w2.cell? ⟨g2, 2, none⟩ = some (.slice A1_2 l1_2.length c1_2) := (blk_cell EK.out 2).trans rfl; clear hg hbox hb))
    go_ret
    exact ⟨by simp [-List.length_eq_zero_iff, H2.out], bw HB⟩
  ·have k1 : (((l1_1.length : Nat) : Int) == ((l0_0.length : Nat) : Int)) = false := beq_eq_false_iff_ne.mpr (by omega)
   have H1 := Aside0.mk h1
   clear h1
   go_enter Tryd.func65, Tryd.ntmps65
   go_wp2_with (first
    | ((with_reducible refine gate_dst (N := 2) rfl ?_); refine box_event rfl rfl (cs := #[.slice A0_0 l0_0.length c0_0, .slice A0_1 l0_1.length c0_1, .slice A0_2 l0_2.length c0_2]) (t := 30) (by first | (go_simp; done) | (go_simp; rfl)) ?_; intro g1 hg w1 hbox hb; replace HB := bs HB hb; have BK := Aside0.mk hbox; clear hg hbox hb)
    | ((with_reducible refine gate_dst (N := 3) rfl ?_); refine box_event rfl rfl (cs := #[.bool true, .slice A1_1 l1_1.length c1_1, .slice A1_2 l1_2.length c1_2]) (t := 41) (by first | (go_simp; done) | (go_simp; rfl)) ?_; intro g2 hg w2 hbox hb; replace BK := bb BK hb; replace HB := bs HB hb; have EK := Aside0.mk hbox; have b0 : w2.cell? ⟨g1, 0, none⟩ = some (.slice A0_0 l0_0.length c0_0) := (blk_cell BK.out 0).trans rfl; have b2 : w2.cell? ⟨g1, 2, none⟩ = some (.slice A0_2 l0_2.length c0_2) := (blk_cell BK.out 2).trans rfl; have e0 : w2.cell? ⟨g2, 0, none⟩ = some (.bool true) := (blk_cell EK.out 0).trans rfl; have e1 : w2.cell? ⟨g2, 1, none⟩ = some (.slice A1_1 l1_1.length c1_1) := (blk_cell EK.out 1).trans rfl; have e2 : w2.cell? ⟨g2, 2, none⟩ = some (.slice A1_2 l1_2.length c1_2) := (blk_cell EK.out 2).trans rfl; clear hg hbox hb))
   go_ret
   exact ⟨by simp [-List.length_eq_zero_iff, H1.out], bw HB⟩

end Go.Proofs.YtcomagipdbdglaaDoor.Q
