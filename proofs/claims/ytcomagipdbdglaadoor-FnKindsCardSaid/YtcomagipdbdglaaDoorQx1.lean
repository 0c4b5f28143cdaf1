-- Contracts of the program's functions, each with the plain function that it computes.
import Derived.Test.YtcomagipdbdglaaDoorQx0
namespace Go.Proofs.YtcomagipdbdglaaDoor.Q
open Go.RowKit Go.Proofs.YtcomagipdbdglaaDoorW.PrintWords Go.Proofs.YtcomagipdbdglaaDoorW.PrintLast Go.Proofs.YtcomagipdbdglaaDoorW.PrintMore
attribute [local go_sem] max2_int min2_int max_two min_two max_three min_three max_four min_four   -- for this text's walks alone
set_option linter.unusedVariables false
set_option linter.unusedSimpArgs false

/-! ### impl_within: function 103 -/
def impl_within.f (a0 : Int) (a1 : Int) (a2 : Int) : Option (Bool) := if a1 ≤ a0 then (some (decide (a0 ≤ a2))) else (some false)
set_option maxHeartbeats 8000000 in
set_option maxRecDepth 100000 in
theorem impl_within.calls (a0 : Int) (a1 : Int) (a2 : Int) (r : Bool) (w : World) (h : impl_within.f a0 a1 a2 = some r) :
  Calls Tryd.prog 103 #[.int .i64 a0, .int .i64 a1, .int .i64 a2] w fun e w' => e = .returned (.bool r) ∧ Drawn0 w w' := by
 have H : (if a1 ≤ a0 then (some (decide (a0 ≤ a2))) else (some false)) = some r := h
 clear h
 by_cases c4 : a1 ≤ a0
 ·rw [if_pos c4] at H
  have c4b0 : decide (a1 ≤ a0) = true := decide_eq_true c4
  clear c4
  obtain rfl := Option.some.inj H
  go_enter Tryd.func103, Tryd.ntmps103
  go_wp2
  go_ret
  exact ⟨by first | rfl | (simp; done) | (simp [*]; done), by repeat (first | exact Drawn0.refl _ | apply Drawn0.step)⟩
 ·rw [if_neg c4] at H
  have c4b0 : decide (a1 ≤ a0) = false := decide_eq_false c4
  clear c4
  obtain rfl := Option.some.inj H
  go_enter Tryd.func103, Tryd.ntmps103
  go_wp2
  go_ret
  exact ⟨by first | rfl | (simp; done) | (simp [*]; done), by repeat (first | exact Drawn0.refl _ | apply Drawn0.step)⟩

/-! ### impl_Decl_names: function 115 -/
def impl_Decl_names.f (l0 : List ByteArray) (l1 : List ByteArray) (l2 : List S91) : Option (List ByteArray) := if l0.length + l1.length + l2.length < 4398046511104 then some (l0 ++ l1 ++ l2.map (·.f0)) else none
set_option maxHeartbeats 2000000 in
set_option maxRecDepth 100000 in
theorem impl_Decl_names.grow (n : Int) (h0 : 0 ≤ n) (hn : n < 4398046511104) (w : World) :
  Calls Tryd.prog 161 #[.slice none 0 0, .int .i64 n] w fun e w' => ∃ v, e = .returned v ∧ Kd.R Kd.string 9 w' w.heap.size (fun _ => True) v [] ∧ Below w.heap.size w w' := by
 by_cases hz : n = 0
 ·subst hz
  go_enter Tryd.func161, Tryd.ntmps161
  go_wp2
  go_ret
  exact ⟨_, rfl, Kd.R_nil _ _ _ _ _, Below.refl _ _⟩
 ·obtain ⟨m, rfl⟩ : ∃ m : Nat, n = m := ⟨n.toNat, by omega⟩
  obtain ⟨i0, hi, hzz⟩ := Option.map_eq_some_iff.1 info9
  simp only [Prod.mk.injEq] at hzz
  obtain ⟨hz0, hz1, hz2⟩ := hzz
  have hrz : ∀ ty (k : Int), k = (m : Int) → (Builtin.append_ #[22, 3] ty #[.slice none 0 0, .int .i64 k]).run Tryd.prog w = _ := fun ty k hk => hk ▸ Lib.run_append_nil_zeros w 22 3 ty 9 i0 (.string ⟨#[]⟩) .i64 .i64 Tryd.underlying22 Tryd.underlying3 hi hz0 m (by omega) (by omega) (by omega) (by rw [hz2]; omega)
  have hcap := grownCap_ge w m 0 9
  have hcap2 := grownCap_le_maxLen w m 0 9 (by unfold maxLen; omega)
  generalize grownCap w m 0 9 = G at hrz hcap hcap2
  have hsz : (Builtin.zeroCells (Value.string ⟨#[]⟩).cells m ++ Builtin.zeroCells (Value.string ⟨#[]⟩).cells (G - m)).size = G := by simp [Builtin.zeroCells, Value.cells]; omega
  generalize Builtin.zeroCells (Value.string ⟨#[]⟩).cells m ++ Builtin.zeroCells (Value.string ⟨#[]⟩).cells (G - m) = cur at hrz hsz
  unfold maxLen at hcap2
  have hR : Kd.R Kd.string 9 (w.drew.alloc (.cells cur 9)) w.heap.size (fun _ => True) (.slice (some ⟨w.heap.size, 0, none⟩) 0 G) [] :=
   ⟨fun _ _ => trivial, [], ⟨rfl, .inr ⟨w.heap.size, G, cur, rfl, Nat.le_refl _, blk_new w.drew _, Nat.zero_le _, by unfold maxLen; omega, by rw [hsz]; show G = G * 1; omega, by simp⟩⟩, Reps.none _ _⟩
  have HR := Aside0.mk hR
  have h1 : ¬ ((m : Int) < 0) := by omega
  have h2 : (m : Int) > 0 := by omega
  have h3 : wrap64 (m : Int) = (m : Int) := by unfold wrap64; omega
  have h4 : (m : Int) - 0 = (m : Int) := by omega
  clear hR hsz hi hz0 hz1 hz2 hcap hcap2 hz h0 hn
  go_enter Tryd.func161, Tryd.ntmps161
  go_wp2_with (at_builtin; refine Lib.wpList_append_run _ rfl _ _ _ _ rfl _ _ rfl rfl _ _ (hrz _ _ h3) ?_)
  go_ret
  exact ⟨_, rfl, HR.out, below_alloc (below_drew (Below.refl _ _)) _⟩
set_option maxHeartbeats 4000000 in
set_option maxRecDepth 100000 in
theorem impl_Decl_names.concat (g : Nat) (A0 : Option Addr) (c0 : Nat) (l0 : List ByteArray) (A1 : Option Addr) (c1 : Nat) (l1 : List ByteArray) (w : World) (hg0 : w.cell? ⟨g, 0, none⟩ = some (.slice A0 l0.length c0)) (hg1 : w.cell? ⟨g, 1, none⟩ = some (.slice A1 l1.length c1))
  (hr0 : Kd.C Kd.string w A0 l0.length l0) (hr1 : Kd.C Kd.string w A1 l1.length l1) (hl : l0.length + l1.length < 4398046511104) :
  Calls Tryd.prog 145 #[.slice (some ⟨g, 0, none⟩) 2 2] w fun e w' => ∃ v, e = .returned v ∧ Kd.R Kd.string 9 w' w.heap.size (fun _ => True) v (l0 ++ l1) ∧ Below w.heap.size w w' := by
 have HR0 := Aside0.mk hr0
 have HR1 := Aside0.mk hr1
 have HG0 := Aside0.mk hg0
 have HG1 := Aside0.mk hg1
 have HGR := fun W => impl_Decl_names.grow ((l0.length : Int) + (l1.length : Int)) (by omega) (by omega) W
 clear hr0 hr1
 go_enter Tryd.func145, Tryd.ntmps145
 go_wp2
 go_loop [3, 5, 11] (fun s3 _ s11 => (s11 = .int .i64 0 ∧ s3 = .int .i64 0) ∨ (s11 = .int .i64 1 ∧ s3 = .int .i64 (l0.length : Int)) ∨ (s11 = .int .i64 2 ∧ s3 = .int .i64 ((l0.length : Int) + (l1.length : Int)))) (fun _ _ i => 2 - (intOf i).toNat)
 case atStart => exact .inl ⟨rfl, rfl⟩
 case round =>
  rcases hrel with ⟨rfl, rfl⟩ | ⟨rfl, rfl⟩ | ⟨rfl, rfl⟩
  ·go_wp2
   go_round
   case rel => exact .inr (.inl ⟨rfl, rfl⟩)
   case measure => simp [intOf]
  ·go_wp2
   go_round
   case rel => exact .inr (.inr ⟨rfl, rfl⟩)
   case measure => simp [intOf]
  ·clear hg0 hg1
   go_wp2_with fail
   refine (HGR _).mono ?_
   rintro e w1 ⟨v, rfl, hR, hb⟩
   have HO := Aside0.mk hR
   have HB := Aside0.mk hb
   clear hR hb HGR
   go_wp2_with fail
   go_loopg [6, 8, 27] 2 (fun gg s6 _ s27 wr => ∃ xs : List ByteArray, ((s27 = .int .i64 0 ∧ [] = xs ∧ 2 ≤ gg) ∨ (s27 = .int .i64 1 ∧ l0 = xs ∧ 1 ≤ gg) ∨ (s27 = .int .i64 2 ∧ l0 ++ l1 = xs)) ∧ Aside0 (Kd.R Kd.string 9 wr w.heap.size (fun _ => True) s6 xs) ∧ Aside0 (Below w.heap.size w wr))
   case atStart => exact ⟨[], .inl ⟨rfl, rfl, Nat.le_refl _⟩, HO, HB⟩
   case round =>
    clear HO HB
    obtain ⟨xs, hx, HO, HB⟩ := hrel
    have hg0 := (HB.out.cell (World.block_lt_of_cell? w _ HG0.out)).trans HG0.out
    have hg1 := (HB.out.cell (World.block_lt_of_cell? w _ HG1.out)).trans HG1.out
    rcases hx with ⟨rfl, hxs, hgg⟩ | ⟨rfl, hxs, hgg⟩ | ⟨rfl, hxs⟩ <;> subst hxs
    ·go_wp2_with (at_builtin; refine Kd.R_append_rows Kd.string (w0 := w) w.heap.size rfl (.tmp 31) (.tmp 32) 22 9 (.string ⟨#[]⟩) 16 rfl Tryd.underlying22 info9 rfl (by decide) (by omega) u6 [] l0 A0 _ c0 (fun _ => True) (fun _ => False) rfl rfl HO.out (Kd.C_below HR0.out HB.out) (fun _ _ h => h) (fun _ h => h.elim) (fun _ _ => trivial) HB.out HB.out.size (by first | omega | (simp; omega)) ?_; intro v2 w2 ho2 hb2 hgr2 hat2; have HO2 := Aside0.mk ho2; have HB2 := Aside0.mk hb2; clear ho2 hb2 hgr2 hat2)
     go_roundg 1
     case measure => omega
     case rel => exact ⟨_, .inr (.inl ⟨rfl, by simp, Nat.le_refl _⟩), HO2, HB2⟩
    ·go_wp2_with (at_builtin; refine Kd.R_append_rows Kd.string (w0 := w) w.heap.size rfl (.tmp 31) (.tmp 32) 22 9 (.string ⟨#[]⟩) 16 rfl Tryd.underlying22 info9 rfl (by decide) (by omega) u6 l0 l1 A1 _ c1 (fun _ => True) (fun _ => False) rfl rfl HO.out (Kd.C_below HR1.out HB.out) (fun _ _ h => h) (fun _ h => h.elim) (fun _ _ => trivial) HB.out HB.out.size (by first | omega | (simp; omega)) ?_; intro v2 w2 ho2 hb2 hgr2 hat2; have HO2 := Aside0.mk ho2; have HB2 := Aside0.mk hb2; clear ho2 hb2 hgr2 hat2)
     go_roundg 0
     case measure => omega
     case rel => exact ⟨_, .inr (.inr ⟨rfl, rfl⟩), HO2, HB2⟩
    ·go_wp2
     go_ret
     exact ⟨_, rfl, HO.out, HB.out⟩
set_option maxHeartbeats 4000000 in
set_option maxRecDepth 100000 in
theorem impl_Decl_names.calls (A0_0 : Option Addr) (c0_0 : Nat) (l0_0 : List ByteArray) (A0_1 : Option Addr) (c0_1 : Nat) (l0_1 : List ByteArray) (A0_2 : Option Addr) (c0_2 : Nat) (l0_2 : List S91) (r : List ByteArray) (w : World) (hr0_0 : Kd.C Kd.string w A0_0 l0_0.length l0_0) (hc0_0 : l0_0.length ≤ c0_0) (hr0_1 : Kd.C Kd.string w A0_1 l0_1.length l0_1) (hc0_1 : l0_1.length ≤ c0_1) (hr0_2 : Kd.C k91 w A0_2 l0_2.length l0_2) (hc0_2 : l0_2.length ≤ c0_2) (h : impl_Decl_names.f l0_0 l0_1 l0_2 = some r) :
  Calls Tryd.prog 115 #[.agg #[.slice A0_0 l0_0.length c0_0, .slice A0_1 l0_1.length c0_1, .slice A0_2 l0_2.length c0_2]] w fun e w' => ∃ v0_ : Value, e = .returned (v0_) ∧ Kd.R Kd.string 9 w' w.heap.size (fun _ => True) v0_ r ∧ Below w.heap.size w w' := by
 unfold impl_Decl_names.f at h
 split at h
 case isFalse => exact absurd h (by simp)
 rename_i hl
 obtain rfl := Option.some.inj h
 clear h
 have HR0 := Aside0.mk hr0_0
 have HR1 := Aside0.mk hr0_1
 have HR2 := Aside0.mk hr0_2
 have HL := Aside0.mk hl
 have HB := Aside0.mk (Below.refl w.heap.size w)
 clear hr0_0 hr0_1 hr0_2 hl hc0_0 hc0_1 hc0_2
 go_enter Tryd.func115, Tryd.ntmps115
 go_wp2_with (first
  | ((with_reducible refine gate_dst (N := 1) rfl ?_); refine box_event rfl rfl (cs := #[.slice A0_0 l0_0.length c0_0, .slice A0_1 l0_1.length c0_1, .slice A0_2 l0_2.length c0_2]) (t := 30) (by first | (go_simp; done) | (go_simp; rfl)) ?_; intro g1 hg w1 hbox hb; replace HB := bs HB hb; have BK := Aside0.mk hbox; have b0 : w1.cell? ⟨g1, 0, none⟩ = some (.slice A0_0 l0_0.length c0_0) := (blk_cell BK.out 0).trans rfl; have b1 : w1.cell? ⟨g1, 1, none⟩ = some (.slice A0_1 l0_1.length c0_1) := (blk_cell BK.out 1).trans rfl; clear hg hbox hb)
  | (go_at_call 145; refine (impl_Decl_names.concat _ A0_0 c0_0 l0_0 A0_1 c0_1 l0_1 _ ((blk_cell (blk_new w1 _) 0).trans rfl) ((blk_cell (blk_new w1 _) 1).trans rfl) (Kd.C_below HR0.out (bw HB)) (Kd.C_below HR1.out (bw HB)) (by have := HL.out; omega)).mono ?_; rintro e w2 ⟨v, rfl, hR, hb⟩; have HO := Aside0.mk (Kd.R_lower hR (below_size (bw HB))); replace BK := bb BK hb; replace HB := bs HB hb; have b2 : w2.cell? ⟨g1, 2, none⟩ = some (.slice A0_2 l0_2.length c0_2) := (blk_cell BK.out 2).trans rfl; clear hR hb))
 clear BK
 go_loopg [3, 5, 15] l0_2.length (fun gg s3 _ s15 wr => ∃ kk : Nat, kk ≤ l0_2.length ∧ l0_2.length - kk ≤ gg ∧ s15 = .int .i64 kk ∧ Aside0 (Kd.R Kd.string 9 wr w.heap.size (fun _ => True) s3 (l0_0 ++ l0_1 ++ (l0_2.take kk).map (·.f0))) ∧ Aside0 (Below w.heap.size w wr))
 case atStart => exact ⟨0, Nat.zero_le _, by omega, rfl, ⟨by simpa using HO.out⟩, HB⟩
 case round =>
  clear HO HB b0 b1 b2
  obtain ⟨kk, hkk, hg, rfl, HO, HB⟩ := hrel
  by_cases hlt : kk < l0_2.length
  ·obtain ⟨ad, rfl, y0, y1⟩ := at_T91 HR2.out (kk : Int) (by omega) (by omega)
   have z0 := (HB.out.cell (World.block_lt_of_cell? w _ y0)).trans y0
   have z1 := (HB.out.cell (World.block_lt_of_cell? w _ y1)).trans y1
   simp only [Int.toNat_natCast] at z0 z1
   clear y0 y1
   have ht : (l0_2.take (kk + 1)).map (·.f0) = (l0_2.take kk).map (·.f0) ++ [(rd_T91 l0_2 (kk : Int)).f0] := by
    rw [List.take_succ_eq_append_getElem hlt, List.map_append]
    unfold rd_T91
    simp [List.getD_eq_getElem?_getD, hlt]
   have HT := Aside0.mk ht
   clear ht
   generalize rd_T91 l0_2 (kk : Int) = x at z0 z1 HT
   obtain ⟨ys, hys⟩ : ∃ ys, ys = l0_0 ++ l0_1 ++ (l0_2.take kk).map (·.f0) := ⟨_, rfl⟩
   have hyl : ys.length < 4398046511104 := by rw [hys]; simp; have := HL.out; omega
   rw [← hys] at HO
   have HY := Aside0.mk hys
   clear hys
   have HYL := Aside0.mk hyl
   clear hyl
   go_wp2_with (at_builtin; refine Kd.R_append Kd.string (w0 := w) w.heap.size rfl (.tmp 19) (.tmp 22) 22 9 (.string ⟨#[]⟩) 16 rfl Tryd.underlying22 info9 rfl (by decide) (by omega) u3 ys x.f0 [.string x.f0] (fun _ => True) (fun _ => False) rfl (by rw [World.size_alloc]; rfl) rfl (fun _ h => h.elim) (fun _ _ => trivial) (Kd.R_alloc HO.out _) (below_alloc HB.out _) (below_size (below_alloc HB.out _)) (by have := HYL.out; omega) ?_; intro v2 w2 ho2 hb2 hgr2 hat2; have HO2 := Aside0.mk ho2; have HB2 := Aside0.mk hb2; clear ho2 hb2 hgr2 hat2)
   go_roundg (l0_2.length - (kk + 1))
   case measure => omega
   case rel => exact ⟨kk + 1, by omega, by omega, by have := HL.out; rw [show wrap64 ((kk : Int) + 1) = ((kk + 1 : Nat) : Int) by unfold wrap64; omega], ⟨by rw [HT.out, ← List.append_assoc, ← HY.out]; exact HO2.out⟩, HB2⟩
  ·have : kk = l0_2.length := by omega
   subst this
   have HA := HO
   have HC := HB
   clear HO HB
   go_wp2
   go_ret
   exact ⟨_, rfl, by have := HA.out; rwa [List.take_length] at this, HC.out⟩

/-! ### impl_isLetter: function 146 -/
def impl_isLetter.f (a0 : Int) : Option (Bool) := if a0 ≥ 97 then (some (decide (a0 ≤ 122))) else (some false)
set_option maxHeartbeats 8000000 in
set_option maxRecDepth 100000 in
theorem impl_isLetter.calls (a0 : Int) (r : Bool) (w : World) (h : impl_isLetter.f a0 = some r) :
  Calls Tryd.prog 146 #[.int .u8 a0] w fun e w' => e = .returned (.bool r) ∧ Drawn0 w w' := by
 have H : (if a0 ≥ 97 then (some (decide (a0 ≤ 122))) else (some false)) = some r := h
 clear h
 by_cases c2 : a0 ≥ 97
 ·rw [if_pos c2] at H
  have c2b0 : decide (97 ≤ a0) = true := decide_eq_true c2
  clear c2
  obtain rfl := Option.some.inj H
  go_enter Tryd.func146, Tryd.ntmps146
  go_wp2
  go_ret
  exact ⟨by first | rfl | (simp; done) | (simp [*]; done), by repeat (first | exact Drawn0.refl _ | apply Drawn0.step)⟩
 ·rw [if_neg c2] at H
  have c2b0 : decide (97 ≤ a0) = false := decide_eq_false c2
  clear c2
  obtain rfl := Option.some.inj H
  go_enter Tryd.func146, Tryd.ntmps146
  go_wp2
  go_ret
  exact ⟨by first | rfl | (simp; done) | (simp [*]; done), by repeat (first | exact Drawn0.refl _ | apply Drawn0.step)⟩

end Go.Proofs.YtcomagipdbdglaaDoor.Q
