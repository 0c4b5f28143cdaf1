-- Contracts of the program's functions, each with the plain function that it computes.
import Derived.Test.YtcomagipdbdglaaDoorQx0
import Derived.Test.YtcomagipdbdglaaDoorQx19
import Derived.Test.YtcomagipdbdglaaDoorQx33
import Derived.Test.YtcomagipdbdglaaDoorQx65
namespace Go.Proofs.YtcomagipdbdglaaDoor.Q
open Go.RowKit Go.Proofs.YtcomagipdbdglaaDoorW.PrintWords Go.Proofs.YtcomagipdbdglaaDoorW.PrintLast Go.Proofs.YtcomagipdbdglaaDoorW.PrintMore
attribute [local go_sem] max2_int min2_int max_two min_two max_three min_three max_four min_four   -- for this text's walks alone
set_option linter.unusedVariables false
set_option linter.unusedSimpArgs false

/-! ### impl_Decl_isTable: function 81 -/
def impl_Decl_isTable.envB (l0 : List ByteArray) (l2 : List S91) (x : S41) : Bool := impl_Decl_isEnv.ok l0 l2 x.f0 x.f1 x.f2
def impl_Decl_isTable.f (l0 : List ByteArray) (l1 : List ByteArray) (l2 : List S91) (m : List S41) : Option Bool := if m.length < 4398046511104 ∧ (∀ x ∈ m, x.f1.length < 4398046511104 ∧ x.f2.length < 4398046511104) then some (decide ((m.length : Int) = shl .i64 1 (l1.length : Int)) && m.all (impl_Decl_isTable.envB l0 l2)) else none
/-- The closure of areAll: not what it was made of. -/
theorem impl_Decl_isTable.closure (D : Value) (q : Bool) (v0 v1 v2 : Value) (B : Nat) (W : World) (hB : B < W.heap.size) (hc : W.cell? ⟨B, 0, none⟩ = some (.func (.func 65) #[D] #[]))
  (hE : ∀ W', Below W.heap.size W W' → Calls Tryd.prog 65 #[D, .agg #[v0, v1, v2]] W' fun e w' => e = .returned (.bool q) ∧ Below W'.heap.size W' w') :
  Calls Tryd.prog 155 #[.agg #[v0, v1, v2], .pointer (some ⟨B, 0, none⟩)] W fun e w' => e = .returned (.bool (!q)) ∧ Below W.heap.size W w' := by
 have eg : ∀ args w, (callFunc 65 args).run Tryd.prog w = .ok (.enter 65 args) w := enters_of Tryd.func65 (by kernel_rfl) rfl
 have hne : B ≠ W.heap.size := by omega
 have HE := Aside0.mk hE
 clear hE
 go_enter Tryd.func155, Tryd.ntmps155
 go_wp2_with fail
 refine (HE.out _ ((Below.refl _ W).alloc (Nat.le_refl _) _)).mono ?_
 rintro e w1 ⟨rfl, hb⟩
 have HB := Aside0.mk hb
 clear hb
 go_wp2
 go_ret
 exact ⟨rfl, ((Below.refl _ W).alloc (Nat.le_refl _) _).trans (HB.out.mono (by simp))⟩
set_option maxHeartbeats 2000000 in
theorem impl_Decl_isTable.index (p : S41 → Bool) (g : Nat) (lb : Array Value) (eg : ∀ args w, (callFunc g args).run Tryd.prog w = .ok (.enter g args) w) (A : Option Addr) (c : Nat) (l : List (S41)) (w : World)
  (hp : ∀ (W : World) (x : S41) (A1 : Option Addr) (c1 : Nat) (A2 : Option Addr) (c2 : Nat), x ∈ l → Below w.heap.size w W → x.f1.length ≤ c1 → Kd.C k78 W A1 x.f1.length x.f1 → x.f2.length ≤ c2 → Kd.C k78 W A2 x.f2.length x.f2 → Calls Tryd.prog g (#[.agg #[.bool x.f0, .slice A1 x.f1.length c1, .slice A2 x.f2.length c2]] ++ lb) W fun e w' => e = .returned (.bool (p x)) ∧ Below w.heap.size w w')
  (hr : Kd.C k41 w A l.length l) (hl : l.length < 4398046511104) :
  Calls Tryd.prog 165 #[.slice A l.length c, .func (.func g) #[] lb] w fun e w' => ∃ n : Int, e = .returned (.int .i64 n) ∧ (decide (0 ≤ n) = l.any p) ∧ Below w.heap.size w w' := by
 have HP := Aside0.mk hp
 have HR := Aside0.mk hr
 clear hp hr
 go_enter Tryd.func165, Tryd.ntmps165
 go_wp2
 go_loopg [5, 8] l.length (fun gg _ s8 wr => ∃ kk : Nat, kk ≤ l.length ∧ l.length - kk ≤ gg ∧ s8 = .int .i64 kk ∧ Aside0 (Below w.heap.size w wr) ∧ Aside0 ((l.take kk).any p = false))
 case atStart => exact ⟨0, Nat.zero_le _, by omega, rfl, ⟨Below.refl _ w⟩, ⟨by simp⟩⟩
 case round =>
  obtain ⟨kk, hkk, hg, rfl, BW, AN⟩ := hrel
  by_cases hlt : kk < l.length
  ·obtain ⟨ad, A1, c1, A2, c2, rfl, y0, y1, y2, s1, g1, s2, g2⟩ := at_T41 HR.out (kk : Int) (by omega) (by omega)
   have z0 := (BW.out.cell (World.block_lt_of_cell? w _ y0)).trans y0
   have z1 := (BW.out.cell (World.block_lt_of_cell? w _ y1)).trans y1
   have z2 := (BW.out.cell (World.block_lt_of_cell? w _ y2)).trans y2
   simp only [Int.toNat_natCast] at z0 z1 z2
   clear y0 y1 y2
   have e : (rd_T41 l (kk : Int)) = l[kk] := by unfold rd_T41; simp [List.getD_eq_getElem?_getD, hlt]
   rw [e] at z0 z1 z2 s1 g1 s2 g2
   clear e
   have hcall := HP.out wr l[kk] A1 c1 A2 c2 (List.getElem_mem hlt) BW.out s1 (Kd.C_below g1 BW.out) s2 (Kd.C_below g2 BW.out)
   clear s1 g1 s2 g2
   have ht : (l.take (kk + 1)).any p = p l[kk] := by rw [List.take_succ_eq_append_getElem hlt, List.any_append, AN.out]; simp
   have hsplit : l.any p = ((l.take (kk + 1)).any p || (l.drop (kk + 1)).any p) := by rw [← List.any_append, List.take_append_drop]
   have HT := Aside0.mk ht
   have HS := Aside0.mk hsplit
   clear ht hsplit
   generalize l[kk] = x at z0 z1 z2 hcall HT
   cases hq : p x with
   | true =>
    rw [hq] at hcall
    have HQ := Aside0.mk hq
    clear hq
    go_wp2_with (go_at_fn g; refine hcall.mono ?_; rintro e w' ⟨rfl, hb'⟩)
    go_ret
    exact ⟨_, rfl, by rw [HS.out, HT.out, HQ.out]; simp, hb'⟩
   | false =>
    rw [hq] at hcall
    have HQ := Aside0.mk hq
    clear hq
    go_wp2_with (go_at_fn g; refine hcall.mono ?_; rintro e w' ⟨rfl, hb'⟩)
    go_roundg (l.length - (kk + 1))
    case measure => omega
    case rel => exact ⟨kk + 1, by omega, by omega, by first | go_num | rw [impl_Decl_isRight.w1 kk (by omega)], ⟨hb'⟩, ⟨by rw [HT.out, HQ.out]⟩⟩
  ·have : kk = l.length := by omega
   subst this
   have HA := AN
   have HB := BW
   clear AN BW
   go_wp2
   go_ret
   exact ⟨_, rfl, by have := HA.out; rw [List.take_length] at this; rw [this]; simp, HB.out⟩
theorem impl_Decl_isTable.contains (p : S41 → Bool) (g : Nat) (lb : Array Value) (eg : ∀ args w, (callFunc g args).run Tryd.prog w = .ok (.enter g args) w) (A : Option Addr) (c : Nat) (l : List (S41)) (w : World)
  (hp : ∀ (W : World) (x : S41) (A1 : Option Addr) (c1 : Nat) (A2 : Option Addr) (c2 : Nat), x ∈ l → Below w.heap.size w W → x.f1.length ≤ c1 → Kd.C k78 W A1 x.f1.length x.f1 → x.f2.length ≤ c2 → Kd.C k78 W A2 x.f2.length x.f2 → Calls Tryd.prog g (#[.agg #[.bool x.f0, .slice A1 x.f1.length c1, .slice A2 x.f2.length c2]] ++ lb) W fun e w' => e = .returned (.bool (p x)) ∧ Below w.heap.size w w')
  (hr : Kd.C k41 w A l.length l) (hl : l.length < 4398046511104) :
  Calls Tryd.prog 154 #[.slice A l.length c, .func (.func g) #[] lb] w fun e w' => e = .returned (.bool (l.any p)) ∧ Below w.heap.size w w' := by
 have HI := Aside0.mk (impl_Decl_isTable.index p g lb eg A c l w hp hr hl)
 clear hp hr
 go_enter Tryd.func154, Tryd.ntmps154
 go_wp2_with fail
 refine HI.out.mono ?_
 rintro e w1 ⟨n, rfl, hn, hb⟩
 have HN := Aside0.mk hn
 have HB := Aside0.mk hb
 clear hn hb
 by_cases h : 0 ≤ n
 all_goals
  go_wp2
  go_ret
  exact ⟨by rw [← HN.out]; simp [h], HB.out⟩
theorem impl_Decl_isTable.all (A0_0 : Option Addr) (c0_0 : Nat) (l0_0 : List ByteArray) (A0_1 : Option Addr) (c0_1 : Nat) (l0_1 : List ByteArray) (A0_2 : Option Addr) (c0_2 : Nat) (l0_2 : List S91) (A1 : Option Addr) (c1 : Nat) (l1 : List S41) (w : World) (hr0_0 : Kd.C Kd.string w A0_0 l0_0.length l0_0) (hc0_0 : l0_0.length ≤ c0_0) (hr0_1 : Kd.C Kd.string w A0_1 l0_1.length l0_1) (hc0_1 : l0_1.length ≤ c0_1) (hr0_2 : Kd.C k91 w A0_2 l0_2.length l0_2) (hc0_2 : l0_2.length ≤ c0_2) (hr : Kd.C k41 w A1 l1.length l1) (hl : l1.length < 4398046511104) (hs : ∀ x ∈ l1, x.f1.length < 4398046511104 ∧ x.f2.length < 4398046511104) :
  Calls Tryd.prog 129 #[.slice A1 l1.length c1, .func (.func 65) #[.agg #[.slice A0_0 l0_0.length c0_0, .slice A0_1 l0_1.length c0_1, .slice A0_2 l0_2.length c0_2]] #[]] w fun e w' => e = .returned (.bool (l1.all (impl_Decl_isTable.envB l0_0 l0_2))) ∧ Below w.heap.size w w' := by
 have eg : ∀ args w, (callFunc 155 args).run Tryd.prog w = .ok (.enter 155 args) w := enters_of Tryd.func155 (by kernel_rfl) rfl
 have hb0 : Below w.heap.size w (w.alloc (.cells #[.func (.func 65) #[.agg #[.slice A0_0 l0_0.length c0_0, .slice A0_1 l0_1.length c0_1, .slice A0_2 l0_2.length c0_2]] #[]] 103)) := (Below.refl _ w).alloc (Nat.le_refl _) _
 have HC := Aside0.mk (impl_Decl_isTable.contains (fun x => !impl_Decl_isTable.envB l0_0 l0_2 x) 155 #[.pointer (some ⟨w.heap.size, 0, none⟩)] eg A1 c1 l1 (w.alloc (.cells #[.func (.func 65) #[.agg #[.slice A0_0 l0_0.length c0_0, .slice A0_1 l0_1.length c0_1, .slice A0_2 l0_2.length c0_2]] #[]] 103))
  (fun W x B1 d1 B2 d2 hx hb s1 g1 s2 g2 => (impl_Decl_isTable.closure (.agg #[.slice A0_0 l0_0.length c0_0, .slice A0_1 l0_1.length c0_1, .slice A0_2 l0_2.length c0_2]) (impl_Decl_isTable.envB l0_0 l0_2 x) (.bool x.f0) (.slice B1 x.f1.length d1) (.slice B2 x.f2.length d2) w.heap.size W (by have := hb.size; simp at this; omega) ((hb.cell (p := ⟨w.heap.size, 0, none⟩) (by simp)).trans (by simp))
   (fun W' hb' => impl_Decl_isEnv.calls A0_0 c0_0 l0_0 A0_1 c0_1 l0_1 A0_2 c0_2 l0_2 x.f0 B1 d1 x.f1 B2 d2 x.f2 _ W' (Kd.C_below (Kd.C_below (Kd.C_below hr0_0 hb0) hb) hb') hc0_0 (Kd.C_below (Kd.C_below (Kd.C_below hr0_1 hb0) hb) hb') hc0_1 (Kd.C_below (Kd.C_below (Kd.C_below hr0_2 hb0) hb) hb') hc0_2 (Kd.C_below g1 hb') s1 (Kd.C_below g2 hb') s2 (by unfold impl_Decl_isEnv.f; rw [if_pos (hs x hx)]; rfl))).mono fun e w' h => ⟨h.1, below_then hb hb.size h.2⟩)
  (Kd.C_below hr hb0) hl)
 have HB0 := Aside0.mk hb0
 clear hb0 hr hr0_0 hr0_1 hr0_2
 go_enter Tryd.func129, Tryd.ntmps129
 go_wp2_with fail
 refine HC.out.mono ?_
 rintro e w1 ⟨rfl, hb⟩
 have HB := Aside0.mk hb
 clear hb
 go_wp2
 go_ret
 exact ⟨by rw [List.any_eq_not_all_not]; simp, below_then HB0.out (by simp) HB.out⟩
set_option maxHeartbeats 4000000 in
set_option maxRecDepth 100000 in
theorem impl_Decl_isTable.calls (A0_0 : Option Addr) (c0_0 : Nat) (l0_0 : List ByteArray) (A0_1 : Option Addr) (c0_1 : Nat) (l0_1 : List ByteArray) (A0_2 : Option Addr) (c0_2 : Nat) (l0_2 : List S91) (A1 : Option Addr) (c1 : Nat) (l1 : List S41) (r : Bool) (w : World) (hr0_0 : Kd.C Kd.string w A0_0 l0_0.length l0_0) (hc0_0 : l0_0.length ≤ c0_0) (hr0_1 : Kd.C Kd.string w A0_1 l0_1.length l0_1) (hc0_1 : l0_1.length ≤ c0_1) (hr0_2 : Kd.C k91 w A0_2 l0_2.length l0_2) (hc0_2 : l0_2.length ≤ c0_2) (hr1 : Kd.C k41 w A1 l1.length l1) (hc1 : l1.length ≤ c1) (h : impl_Decl_isTable.f l0_0 l0_1 l0_2 l1 = some r) :
  Calls Tryd.prog 81 #[.agg #[.slice A0_0 l0_0.length c0_0, .slice A0_1 l0_1.length c0_1, .slice A0_2 l0_2.length c0_2], .slice A1 l1.length c1] w fun e w' => e = .returned (.bool r) ∧ Below w.heap.size w w' := by
 unfold impl_Decl_isTable.f at h
 split at h
 case isFalse => exact absurd h (by simp)
 rename_i hl
 obtain rfl := Option.some.inj h
 clear h
 have HA := Aside0.mk fun W hb => impl_Decl_isTable.all A0_0 c0_0 l0_0 A0_1 c0_1 l0_1 A0_2 c0_2 l0_2 A1 c1 l1 W (Kd.C_below hr0_0 hb) hc0_0 (Kd.C_below hr0_1 hb) hc0_1 (Kd.C_below hr0_2 hb) hc0_2 (Kd.C_below hr1 hb) hl.1 hl.2
 have HZ := Aside0.mk fun W hb => impl_Env.calls A1 c1 l1 _ W (Kd.C_below hr1 hb) hc1 rfl
 have HV := Aside0.mk fun W hb => impl_Decl_leaves.calls A0_0 c0_0 l0_0 A0_1 c0_1 l0_1 A0_2 c0_2 l0_2 _ W (Kd.C_below hr0_0 hb) hc0_0 (Kd.C_below hr0_1 hb) hc0_1 (Kd.C_below hr0_2 hb) hc0_2 rfl
 have HB := Aside0.mk (Below.refl w.heap.size w)
 clear hr0_0 hr0_1 hr0_2 hr1 hl hc0_0 hc0_1 hc0_2 hc1
 by_cases hz : (l1.length : Int) = shl .i64 1 (l0_1.length : Int)
 ·have kz : ((l1.length : Int) == shl .i64 1 (l0_1.length : Int)) = true := beq_iff_eq.mpr hz
  have ky : decide ((l1.length : Int) = shl .i64 1 (l0_1.length : Int)) = true := decide_eq_true hz
  have KZ := Aside0.mk kz
  have KY := Aside0.mk ky
  clear hz kz ky
  generalize shl .i64 1 (l0_1.length : Int) = sz at HV KZ KY ⊢
  go_enter Tryd.func81, Tryd.ntmps81
  go_wp2_with ((with_reducible refine gate_dst (N := 2) rfl ?_); refine box_event rfl rfl (cs := #[.slice A0_0 l0_0.length c0_0, .slice A0_1 l0_1.length c0_1, .slice A0_2 l0_2.length c0_2]) (t := 30) (by first | (go_simp; done) | (go_simp; rfl)) ?_; intro g1 hg w1 hbox hb; replace HB := bs HB hb; have BK := Aside0.mk hbox; clear hg hbox hb)
  replace BK := Aside0.mk (blk_drew BK.out)
  replace HB := Aside0.mk (below_drew1 HB.out)
  refine start_ (n := 12) (S := (fun w' => w'.cell? ⟨g1, 0, none⟩ = some (.slice A0_0 l0_0.length c0_0) ∧ w'.cell? ⟨g1, 1, none⟩ = some (.slice A0_1 l0_1.length c0_1) ∧ w'.cell? ⟨g1, 2, none⟩ = some (.slice A0_2 l0_2.length c0_2))) (ds := []) #[false, false, false, false, false, false, false, false, false, false, false, false] (by kernel_rfl) rfl rfl ⟨(blk_cell BK.out 0).trans rfl, (blk_cell BK.out 1).trans rfl, (blk_cell BK.out 2).trans rfl⟩ (fun hHeld => ?_)
  generalize w1.drew = w2 at BK HB hHeld ⊢
  refine pure_ (i := 0) (N := some 5) (v := ?_) (a' := ?_) #[true, false, false, false, false, false, false, false, false, false, false, false] rfl rfl (by kernel_rfl) (fun _ _ _ h => h) (Or.inl ⟨by rfl, ?_⟩) ?_ ?_
  rotate_left
  ·intro w'
   go_simp
   with_reducible rfl
  rotate_left
  ·simp only [Act.put, List.setIfInBounds_toArray, List.set_cons_zero, List.set_cons_succ, i64_w, i32_w]
   rfl
  refine take_ (i := 2) (N := some 7) (v := ?_) (a' := ?_) #[true, false, true, false, false, false, false, false, false, false, false, false] rfl rfl (by kernel_rfl) (fun _ _ _ h => h) (Or.inl ⟨by rfl, ?_⟩) hHeld ?_ ?_
  rotate_left
  ·rintro w' ⟨s0, s1, s2⟩
   go_simp
   with_reducible rfl
  rotate_left
  ·simp only [Act.put, List.setIfInBounds_toArray, List.set_cons_zero, List.set_cons_succ, i64_w, i32_w]
   rfl
  refine one_ (i := 1) (N := some 6) #[true, true, true, false, false, false, false, false, false, false, false, false] rfl rfl (by kernel_rfl) (by decide) (fun K hK => ?_)
  refine goes_ Tryd.func127 (by kernel_rfl) rfl #[.slice A1 l1.length c1] (by rfl) rfl rfl (by (try simp only [List.map_toArray, List.map_cons, List.map_nil]); first | done | rfl) ?_
  refine (HZ.out _ HB.out).mono ?_
  rintro e w3 ⟨rfl, hd⟩
  have hb := hd.below
  clear hd
  refine ⟨_, rfl, ?_⟩
  replace BK := bb BK hb
  replace HB := bs HB hb
  clear hb
  refine hK.out _ _ ⟨(blk_cell BK.out 0).trans rfl, (blk_cell BK.out 1).trans rfl, (blk_cell BK.out 2).trans rfl⟩ (fun hHeld => ?_)
  clear hK K
  refine norm_ (a' := ?_) ?_ ?_
  rotate_left
  ·show Act.put _ (some 6) _ = _
   simp only [Act.put, List.setIfInBounds_toArray, List.set_cons_zero, List.set_cons_succ, i64_w, i32_w]
   rfl
  refine one_ (i := 3) (N := some 8) #[true, true, true, true, false, false, false, false, false, false, false, false] rfl rfl (by kernel_rfl) (by decide) (fun K hK => ?_)
  refine goes_ Tryd.func128 (by kernel_rfl) rfl #[.agg #[.slice A0_0 l0_0.length c0_0, .slice A0_1 l0_1.length c0_1, .slice A0_2 l0_2.length c0_2]] (by rfl) rfl rfl (by (try simp only [List.map_toArray, List.map_cons, List.map_nil]); first | done | rfl) ?_
  refine (HV.out _ HB.out).mono ?_
  rintro e w4 ⟨rfl, hb⟩
  refine ⟨_, rfl, ?_⟩
  replace BK := bb BK hb
  replace HB := bs HB hb
  clear hb
  refine hK.out _ _ ⟨(blk_cell BK.out 0).trans rfl, (blk_cell BK.out 1).trans rfl, (blk_cell BK.out 2).trans rfl⟩ (fun hHeld => ?_)
  clear hK K
  refine norm_ (a' := ?_) ?_ ?_
  rotate_left
  ·show Act.put _ (some 8) _ = _
   simp only [Act.put, List.setIfInBounds_toArray, List.set_cons_zero, List.set_cons_succ, i64_w, i32_w]
   rfl
  refine pure_ (i := 4) (N := some 9) (v := ?_) (a' := ?_) #[true, true, true, true, true, false, false, false, false, false, false, false] rfl rfl (by kernel_rfl) (fun _ _ _ h => h) (Or.inl ⟨by rfl, ?_⟩) ?_ ?_
  rotate_left
  ·intro w'
   go_simp
   with_reducible rfl
  rotate_left
  ·simp only [Act.put, List.setIfInBounds_toArray, List.set_cons_zero, List.set_cons_succ, i64_w, i32_w]
   rfl
  try rw [KZ.out]
  try rw [KY.out]
  refine pure_ (i := 5) (N := some 10) (v := ?_) (a' := ?_) #[true, true, true, true, true, true, false, false, false, false, false, false] rfl rfl (by kernel_rfl) (fun _ _ _ h => h) (Or.inl ⟨by rfl, ?_⟩) ?_ ?_
  rotate_left
  ·intro w'
   go_simp
   with_reducible rfl
  rotate_left
  ·simp only [Act.put, List.setIfInBounds_toArray, List.set_cons_zero, List.set_cons_succ, i64_w, i32_w]
   rfl
  refine pure_ (i := 6) (N := some 11) (v := ?_) (a' := ?_) #[true, true, true, true, true, true, true, false, false, false, false, false] rfl rfl (by kernel_rfl) (fun _ _ _ h => h) (Or.inl ⟨by rfl, ?_⟩) ?_ ?_
  rotate_left
  ·intro w'
   go_simp
   with_reducible rfl
  rotate_left
  ·simp only [Act.put, List.setIfInBounds_toArray, List.set_cons_zero, List.set_cons_succ, i64_w, i32_w]
   rfl
  refine take_ (i := 7) (N := some 12) (v := ?_) (a' := ?_) #[true, true, true, true, true, true, true, true, false, false, false, false] rfl rfl (by kernel_rfl) (fun _ _ _ h => h) (Or.inl ⟨by rfl, ?_⟩) hHeld ?_ ?_
  rotate_left
  ·rintro w' ⟨s0, s1, s2⟩
   go_simp
   with_reducible rfl
  rotate_left
  ·simp only [Act.put, List.setIfInBounds_toArray, List.set_cons_zero, List.set_cons_succ, i64_w, i32_w]
   rfl
  refine pure_ (i := 8) (N := some 13) (v := ?_) (a' := ?_) #[true, true, true, true, true, true, true, true, true, false, false, false] rfl rfl (by kernel_rfl) (fun _ _ _ h => h) (Or.inl ⟨by rfl, ?_⟩) ?_ ?_
  rotate_left
  ·intro w'
   go_simp
   with_reducible rfl
  rotate_left
  ·simp only [Act.put, List.setIfInBounds_toArray, List.set_cons_zero, List.set_cons_succ, i64_w, i32_w]
   rfl
  refine one_ (i := 9) (N := some 14) #[true, true, true, true, true, true, true, true, true, true, false, false] rfl rfl (by kernel_rfl) (by decide) (fun K hK => ?_)
  refine goes_ Tryd.func129 (by kernel_rfl) rfl #[.slice A1 l1.length c1, .func (.func 65) #[.agg #[.slice A0_0 l0_0.length c0_0, .slice A0_1 l0_1.length c0_1, .slice A0_2 l0_2.length c0_2]] #[]] (by rfl) rfl rfl (by (try simp only [List.map_toArray, List.map_cons, List.map_nil]); first | done | rfl) ?_
  refine (HA.out _ HB.out).mono ?_
  rintro e w5 ⟨rfl, hb⟩
  refine ⟨_, rfl, ?_⟩
  replace BK := bb BK hb
  replace HB := bs HB hb
  clear hb
  refine hK.out _ _ ⟨(blk_cell BK.out 0).trans rfl, (blk_cell BK.out 1).trans rfl, (blk_cell BK.out 2).trans rfl⟩ (fun hHeld => ?_)
  clear hK K
  refine norm_ (a' := ?_) ?_ ?_
  rotate_left
  ·show Act.put _ (some 14) _ = _
   simp only [Act.put, List.setIfInBounds_toArray, List.set_cons_zero, List.set_cons_succ, i64_w, i32_w]
   rfl
  refine pure_ (i := 10) (N := some 15) (v := ?_) (a' := ?_) #[true, true, true, true, true, true, true, true, true, true, true, false] rfl rfl (by kernel_rfl) (fun _ _ _ h => h) (Or.inl ⟨by rfl, ?_⟩) ?_ ?_
  rotate_left
  ·intro w'
   go_simp
   with_reducible rfl
  rotate_left
  ·simp only [Act.put, List.setIfInBounds_toArray, List.set_cons_zero, List.set_cons_succ, i64_w, i32_w]
   rfl
  refine pure_ (i := 11) (N := some 4) (v := ?_) (a' := ?_) #[true, true, true, true, true, true, true, true, true, true, true, true] rfl rfl (by kernel_rfl) (fun _ _ _ h => h) (Or.inl ⟨by rfl, ?_⟩) ?_ ?_
  rotate_left
  ·intro w'
   go_simp
   with_reducible rfl
  rotate_left
  ·simp only [Act.put, List.setIfInBounds_toArray, List.set_cons_zero, List.set_cons_succ, i64_w, i32_w]
   rfl
  refine done_ (by kernel_rfl) ?_
  try go_wp2
  go_ret
  exact ⟨by rw [KY.out]; first | rfl | simp, HB.out⟩
 ·have kz : ((l1.length : Int) == shl .i64 1 (l0_1.length : Int)) = false := beq_eq_false_iff_ne.mpr hz
  have ky : decide ((l1.length : Int) = shl .i64 1 (l0_1.length : Int)) = false := decide_eq_false hz
  have KZ := Aside0.mk kz
  have KY := Aside0.mk ky
  clear hz kz ky
  generalize shl .i64 1 (l0_1.length : Int) = sz at HV KZ KY ⊢
  go_enter Tryd.func81, Tryd.ntmps81
  go_wp2_with ((with_reducible refine gate_dst (N := 2) rfl ?_); refine box_event rfl rfl (cs := #[.slice A0_0 l0_0.length c0_0, .slice A0_1 l0_1.length c0_1, .slice A0_2 l0_2.length c0_2]) (t := 30) (by first | (go_simp; done) | (go_simp; rfl)) ?_; intro g1 hg w1 hbox hb; replace HB := bs HB hb; have BK := Aside0.mk hbox; clear hg hbox hb)
  replace BK := Aside0.mk (blk_drew BK.out)
  replace HB := Aside0.mk (below_drew1 HB.out)
  refine start_ (n := 12) (S := (fun w' => w'.cell? ⟨g1, 0, none⟩ = some (.slice A0_0 l0_0.length c0_0) ∧ w'.cell? ⟨g1, 1, none⟩ = some (.slice A0_1 l0_1.length c0_1) ∧ w'.cell? ⟨g1, 2, none⟩ = some (.slice A0_2 l0_2.length c0_2))) (ds := []) #[false, false, false, false, false, false, false, false, false, false, false, false] (by kernel_rfl) rfl rfl ⟨(blk_cell BK.out 0).trans rfl, (blk_cell BK.out 1).trans rfl, (blk_cell BK.out 2).trans rfl⟩ (fun hHeld => ?_)
  generalize w1.drew = w2 at BK HB hHeld ⊢
  refine pure_ (i := 0) (N := some 5) (v := ?_) (a' := ?_) #[true, false, false, false, false, false, false, false, false, false, false, false] rfl rfl (by kernel_rfl) (fun _ _ _ h => h) (Or.inl ⟨by rfl, ?_⟩) ?_ ?_
  rotate_left
  ·intro w'
   go_simp
   with_reducible rfl
  rotate_left
  ·simp only [Act.put, List.setIfInBounds_toArray, List.set_cons_zero, List.set_cons_succ, i64_w, i32_w]
   rfl
  refine take_ (i := 2) (N := some 7) (v := ?_) (a' := ?_) #[true, false, true, false, false, false, false, false, false, false, false, false] rfl rfl (by kernel_rfl) (fun _ _ _ h => h) (Or.inl ⟨by rfl, ?_⟩) hHeld ?_ ?_
  rotate_left
  ·rintro w' ⟨s0, s1, s2⟩
   go_simp
   with_reducible rfl
  rotate_left
  ·simp only [Act.put, List.setIfInBounds_toArray, List.set_cons_zero, List.set_cons_succ, i64_w, i32_w]
   rfl
  refine one_ (i := 1) (N := some 6) #[true, true, true, false, false, false, false, false, false, false, false, false] rfl rfl (by kernel_rfl) (by decide) (fun K hK => ?_)
  refine goes_ Tryd.func127 (by kernel_rfl) rfl #[.slice A1 l1.length c1] (by rfl) rfl rfl (by (try simp only [List.map_toArray, List.map_cons, List.map_nil]); first | done | rfl) ?_
  refine (HZ.out _ HB.out).mono ?_
  rintro e w3 ⟨rfl, hd⟩
  have hb := hd.below
  clear hd
  refine ⟨_, rfl, ?_⟩
  replace BK := bb BK hb
  replace HB := bs HB hb
  clear hb
  refine hK.out _ _ ⟨(blk_cell BK.out 0).trans rfl, (blk_cell BK.out 1).trans rfl, (blk_cell BK.out 2).trans rfl⟩ (fun hHeld => ?_)
  clear hK K
  refine norm_ (a' := ?_) ?_ ?_
  rotate_left
  ·show Act.put _ (some 6) _ = _
   simp only [Act.put, List.setIfInBounds_toArray, List.set_cons_zero, List.set_cons_succ, i64_w, i32_w]
   rfl
  refine one_ (i := 3) (N := some 8) #[true, true, true, true, false, false, false, false, false, false, false, false] rfl rfl (by kernel_rfl) (by decide) (fun K hK => ?_)
  refine goes_ Tryd.func128 (by kernel_rfl) rfl #[.agg #[.slice A0_0 l0_0.length c0_0, .slice A0_1 l0_1.length c0_1, .slice A0_2 l0_2.length c0_2]] (by rfl) rfl rfl (by (try simp only [List.map_toArray, List.map_cons, List.map_nil]); first | done | rfl) ?_
  refine (HV.out _ HB.out).mono ?_
  rintro e w4 ⟨rfl, hb⟩
  refine ⟨_, rfl, ?_⟩
  replace BK := bb BK hb
  replace HB := bs HB hb
  clear hb
  refine hK.out _ _ ⟨(blk_cell BK.out 0).trans rfl, (blk_cell BK.out 1).trans rfl, (blk_cell BK.out 2).trans rfl⟩ (fun hHeld => ?_)
  clear hK K
  refine norm_ (a' := ?_) ?_ ?_
  rotate_left
  ·show Act.put _ (some 8) _ = _
   simp only [Act.put, List.setIfInBounds_toArray, List.set_cons_zero, List.set_cons_succ, i64_w, i32_w]
   rfl
  refine pure_ (i := 4) (N := some 9) (v := ?_) (a' := ?_) #[true, true, true, true, true, false, false, false, false, false, false, false] rfl rfl (by kernel_rfl) (fun _ _ _ h => h) (Or.inl ⟨by rfl, ?_⟩) ?_ ?_
  rotate_left
  ·intro w'
   go_simp
   with_reducible rfl
  rotate_left
  ·simp only [Act.put, List.setIfInBounds_toArray, List.set_cons_zero, List.set_cons_succ, i64_w, i32_w]
   rfl
  try rw [KZ.out]
  try rw [KY.out]
  refine pure_ (i := 5) (N := some 10) (v := ?_) (a' := ?_) #[true, true, true, true, true, true, false, false, false, false, false, false] rfl rfl (by kernel_rfl) (fun _ _ _ h => h) (Or.inl ⟨by rfl, ?_⟩) ?_ ?_
  rotate_left
  ·intro w'
   go_simp
   with_reducible rfl
  rotate_left
  ·simp only [Act.put, List.setIfInBounds_toArray, List.set_cons_zero, List.set_cons_succ, i64_w, i32_w]
   rfl
  refine pure_ (i := 6) (N := some 11) (v := undef) (a' := ?_) #[true, true, true, true, true, true, true, false, false, false, false, false] rfl rfl (by kernel_rfl) (fun _ _ _ h => h) (Or.inr ⟨by rfl, rfl⟩) ?_ ?_
  rotate_left
  ·simp only [Act.put, List.setIfInBounds_toArray, List.set_cons_zero, List.set_cons_succ, i64_w, i32_w]
   rfl
  refine pure_ (i := 7) (N := some 12) (v := undef) (a' := ?_) #[true, true, true, true, true, true, true, true, false, false, false, false] rfl rfl (by kernel_rfl) (fun _ _ _ h => h) (Or.inr ⟨by rfl, rfl⟩) ?_ ?_
  rotate_left
  ·simp only [Act.put, List.setIfInBounds_toArray, List.set_cons_zero, List.set_cons_succ, i64_w, i32_w]
   rfl
  refine pure_ (i := 8) (N := some 13) (v := undef) (a' := ?_) #[true, true, true, true, true, true, true, true, true, false, false, false] rfl rfl (by kernel_rfl) (fun _ _ _ h => h) (Or.inr ⟨by rfl, rfl⟩) ?_ ?_
  rotate_left
  ·simp only [Act.put, List.setIfInBounds_toArray, List.set_cons_zero, List.set_cons_succ, i64_w, i32_w]
   rfl
  refine pure_ (i := 9) (N := some 14) (v := undef) (a' := ?_) #[true, true, true, true, true, true, true, true, true, true, false, false] rfl rfl (by kernel_rfl) (fun _ _ _ h => h) (Or.inr ⟨by rfl, rfl⟩) ?_ ?_
  rotate_left
  ·simp only [Act.put, List.setIfInBounds_toArray, List.set_cons_zero, List.set_cons_succ, i64_w, i32_w]
   rfl
  refine pure_ (i := 10) (N := some 15) (v := ?_) (a' := ?_) #[true, true, true, true, true, true, true, true, true, true, true, false] rfl rfl (by kernel_rfl) (fun _ _ _ h => h) (Or.inl ⟨by rfl, ?_⟩) ?_ ?_
  rotate_left
  ·intro w'
   go_simp
   with_reducible rfl
  rotate_left
  ·simp only [Act.put, List.setIfInBounds_toArray, List.set_cons_zero, List.set_cons_succ, i64_w, i32_w]
   rfl
  refine pure_ (i := 11) (N := some 4) (v := ?_) (a' := ?_) #[true, true, true, true, true, true, true, true, true, true, true, true] rfl rfl (by kernel_rfl) (fun _ _ _ h => h) (Or.inl ⟨by rfl, ?_⟩) ?_ ?_
  rotate_left
  ·intro w'
   go_simp
   with_reducible rfl
  rotate_left
  ·simp only [Act.put, List.setIfInBounds_toArray, List.set_cons_zero, List.set_cons_succ, i64_w, i32_w]
   rfl
  refine done_ (by kernel_rfl) ?_
  try go_wp2
  go_ret
  exact ⟨by rw [KY.out]; first | rfl | simp, HB.out⟩

end Go.Proofs.YtcomagipdbdglaaDoor.Q
