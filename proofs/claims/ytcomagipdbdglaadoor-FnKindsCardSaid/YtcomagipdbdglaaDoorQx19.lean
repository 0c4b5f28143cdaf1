-- Contracts of the program's functions, each with the plain function that it computes.
import Derived.Test.YtcomagipdbdglaaDoorQx0
import Derived.Test.YtcomagipdbdglaaDoorQx17
import Derived.Test.YtcomagipdbdglaaDoorQx18
namespace Go.Proofs.YtcomagipdbdglaaDoor.Q
open Go.RowKit Go.Proofs.YtcomagipdbdglaaDoorW.PrintWords Go.Proofs.YtcomagipdbdglaaDoorW.PrintLast Go.Proofs.YtcomagipdbdglaaDoorW.PrintMore
attribute [local go_sem] max2_int min2_int max_two min_two max_three min_three max_four min_four   -- for this text's walks alone
set_option linter.unusedVariables false
set_option linter.unusedSimpArgs false

/-! ### spec_l1Rd_decl: function 98 -/
def spec_l1Rd_decl.names (l : List UInt8) : List ByteArray := l.map fun c => ⟨#[c]⟩
def spec_l1Rd_decl.f (s0 : List Int) (s1 : Int) : Option (List ByteArray × List ByteArray × List S91 × Int) :=
 (spec_l1Rd_below.f s0 s1 4).bind fun a => (spec_l1Rd_below.f s0 a.2 2).bind fun b => (spec_l1Rd_once.f s0 b.2 3).bind fun c =>
 (if c.1 = true then (spec_l1Rd_below.f s0 c.2 4).bind fun d => some ((spec_l1Rd_decl.names [98, 99, 102]).take d.1.toNat, d.1, d.2) else some ((spec_l1Rd_decl.names [98, 99, 102]).take (1 + b.1).toNat, 0, c.2)).bind fun fl =>
 (spec_l1Rd_once.f s0 fl.2.2 2).bind fun m =>
 (if m.1 = true then (spec_l1Rd_below.f s0 m.2 6).bind fun z => some ([(⟨⟨#[97]⟩, wrap64 (1 + z.1)⟩ : S91)], z.2) else some ([], m.2)).bind fun ar =>
 if 0 ≤ a.1 ∧ a.1 < 4 ∧ 0 ≤ b.1 ∧ b.1 < 2 ∧ 0 ≤ fl.2.1 ∧ fl.2.1 < 4 then some ((spec_l1Rd_decl.names [120, 121, 105, 110, 107]).take (1 + a.1).toNat, fl.1, ar.1, ar.2) else none
theorem spec_l1Rd_decl.blk_al {w W : World} {k : Nat} {o : Obj} (h : W.heap[k]? = some o ∧ w.heap.size ≤ k) (o' : Obj) : (W.alloc o').heap[k]? = some o ∧ w.heap.size ≤ k := ⟨blk_alloc h.1 o', h.2⟩
theorem spec_l1Rd_decl.blk_call {w W W' : World} {g k : Nat} {o : Obj} (hk : KeepBut W W' g none) (hl : g < w.heap.size) (h : W.heap[k]? = some o ∧ w.heap.size ≤ k) : W'.heap[k]? = some o ∧ w.heap.size ≤ k := ⟨hk.blk h.1 (by omega) (by simp), h.2⟩
theorem spec_l1Rd_decl.blk_far2 {w W : World} {g k : Nat} {o : Obj} (h : W.heap[k]? = some o ∧ w.heap.size ≤ k) (hn : k ≠ g) (u0 u1 u2 : Value) :
  (((W.setCell ⟨g, 0, none⟩ u0).setCell ⟨g, 1, none⟩ u1).setCell ⟨g, 2, none⟩ u2).heap[k]? = some o ∧ w.heap.size ≤ k :=
 ⟨(Below.heap_setCell _ _ _ k hn).trans ((Below.heap_setCell _ _ _ k hn).trans ((Below.heap_setCell _ _ _ k hn).trans h.1)), h.2⟩
theorem spec_l1Rd_decl.blk_ne {W : World} {g k : Nat} {cs ct : Array Value} {t t' : TypeId} {r r' : Nat × Nat} (h : W.heap[k]? = some (.cells cs t r)) (h' : W.heap[g]? = some (.cells ct t' r')) (ht : t ≠ t') : k ≠ g := by
 rintro rfl
 rw [h] at h'
 injection h' with h'
 injection h' with _ h2
 exact ht h2
theorem spec_l1Rd_decl.blk_far {w W : World} {g k : Nat} {cs ct : Array Value} {t t' : TypeId} {r r' : Nat × Nat} (h : W.heap[k]? = some (.cells cs t r) ∧ w.heap.size ≤ k) (h' : W.heap[g]? = some (.cells ct t' r')) (ht : t ≠ t') (u0 u1 u2 : Value) :
  (((W.setCell ⟨g, 0, none⟩ u0).setCell ⟨g, 1, none⟩ u1).setCell ⟨g, 2, none⟩ u2).heap[k]? = some (.cells cs t r) ∧ w.heap.size ≤ k :=
 spec_l1Rd_decl.blk_far2 h (spec_l1Rd_decl.blk_ne h.1 h' ht) u0 u1 u2
theorem spec_l1Rd_decl.is_set {w0 W : World} {g k : Nat} {f0 : List Int} {f1 : Int} (h : IsS163 w0 W g f0 f1) (hn : g ≠ k) (u0 u1 u2 : Value) :
  IsS163 w0 (((W.setCell ⟨k, 0, none⟩ u0).setCell ⟨k, 1, none⟩ u1).setCell ⟨k, 2, none⟩ u2) g f0 f1 := ((h.far hn u0).far hn u1).far hn u2
theorem spec_l1Rd_decl.far1 {w W : World} {g k : Nat} {o : Obj} (h : W.heap[k]? = some o ∧ w.heap.size ≤ k) (hn : k ≠ g) (j : Nat) (u : Value) : (W.setCell ⟨g, j, none⟩ u).heap[k]? = some o ∧ w.heap.size ≤ k :=
 ⟨(Below.heap_setCell _ _ _ k hn).trans h.1, h.2⟩
theorem spec_l1Rd_decl.put1 {w W : World} {g : Nat} {t : TypeId} {cs : Array Value} (h : W.heap[g]? = some (.cells cs t (0, 0)) ∧ w.heap.size ≤ g) (j : Nat) (u : Value) (cs' : Array Value) (e : cs.setIfInBounds j u = cs') : (W.setCell ⟨g, j, none⟩ u).heap[g]? = some (.cells cs' t (0, 0)) ∧ w.heap.size ≤ g :=
 ⟨blk_put h.1 j u e, h.2⟩
theorem spec_l1Rd_decl.blk_sz {W : World} {g k : Nat} {cs ct : Array Value} {t t' : TypeId} {r r' : Nat × Nat} (h : W.heap[k]? = some (.cells cs t r)) (h' : W.heap[g]? = some (.cells ct t' r')) (hs : cs.size ≠ ct.size) : k ≠ g := by
 rintro rfl
 rw [h] at h'
 injection h' with h'
 injection h' with h2
 exact hs (by rw [h2])
theorem spec_l1Rd_decl.row {w W : World} {g n c : Nat} {cs : Array Value} {xs : List ByteArray} {ok : Nat → Prop} (h : W.heap[g]? = some (.cells cs 9 (0, 0)) ∧ w.heap.size ≤ g) (he : cs.toList = xs.map Value.string) (hc : xs.length = c) (hn : n ≤ c) (hm : c ≤ 100) (hok : ok g) :
  Kd.R Kd.string 9 W w.heap.size ok (.slice (some ⟨g, 0, none⟩) n c) (xs.take n) := by
 have hz : cs.size = xs.length := by rw [← Array.length_toList, he, List.length_map]
 have hl : (xs.take n).length = n := by rw [List.length_take]; omega
 refine ⟨fun k hk => ?_, (xs.take n).map Value.string, ⟨by rw [List.length_map]; exact (Nat.mul_one _).symm, .inr ⟨g, c, cs, by rw [hl], h.2, h.1, by rw [hl]; exact hn, by unfold maxLen; omega, by show cs.size = c * 1; omega, ?_⟩⟩, ?_, fun j p hj => ?_⟩
 ·have : g = k := by simpa [Value.ownBlock] using hk
  exact this ▸ hok
 ·show cs.toList.take ((xs.take n).length * 1) = _
  rw [Nat.mul_one, hl, he, ← List.map_take]
 ·rw [List.length_map]; exact (Nat.mul_one _).symm
 ·obtain ⟨hj1, hj2⟩ := List.getElem?_eq_some_iff.1 hj
  show (((xs.take n).map Value.string).drop (j * 1)).take 1 = [Value.string p]
  rw [Nat.mul_one, List.drop_eq_getElem_cons (by rw [List.length_map]; exact hj1)]
  simp only [List.getElem_map, hj2]
  rfl
theorem spec_l1Rd_decl.row1 {w W : World} {g : Nat} {x : S91} (h : W.heap[g]? = some (.cells #[.string x.f0, .int .i64 x.f1] 91 (0, 0)) ∧ w.heap.size ≤ g) :
  Kd.R k91 91 W w.heap.size (fun _ => True) (.slice (some ⟨g, 0, none⟩) 1 1) [x] := by
 refine ⟨fun _ _ => trivial, [.string x.f0, .int .i64 x.f1], ⟨rfl, .inr ⟨g, 1, #[.string x.f0, .int .i64 x.f1], rfl, h.2, h.1, Nat.le_refl _, by unfold maxLen; omega, rfl, rfl⟩⟩, rfl, fun j p hj => ?_⟩
 obtain ⟨hl, hp⟩ := List.getElem?_eq_some_iff.1 hj
 have h0 : j = 0 := by simpa using hl
 subst h0
 have hp' : x = p := by simpa using hp
 subst hp'
 exact k91_mkM _ _ _ _
def spec_l1Rd_decl.T1 : Bool × List (List Nat × List Nat) := (true, [([], []), ([], []), ([1], [1]), ([2], [2]), ([0, 3], [0, 3]), ([], []), ([], []), ([6, 2], [6]), ([7], [7]), ([5, 8], [5, 8]), ([4, 9], [4, 9]), ([], []), ([11, 10, 7, 0, 1, 2, 3, 4, 5, 6, 7, 8, 9, 10, 11], [10, 11])])
def spec_l1Rd_decl.B1 : List Nat := [0, 0, 2, 6, 15, 0, 0, 70, 198, 486, 1023, 0, 4095]
theorem spec_l1Rd_decl.tab1 : rtab .any (opsOf Tryd.f98 1) = spec_l1Rd_decl.T1 := by kernel_rfl
theorem spec_l1Rd_decl.bits1 : waitsOk spec_l1Rd_decl.T1.2 spec_l1Rd_decl.B1 = true := by kernel_rfl
set_option maxHeartbeats 8000000 in
set_option maxRecDepth 100000 in
theorem spec_l1Rd_decl.calls (g : Nat) (s0_0 : List Int) (s0_1 : Int) (r1 r2 : List ByteArray) (r3 : List S91) (r4 : Int) (w0 w : World) (hI : IsS163 w0 w g s0_0 s0_1) (hB : Below w0.heap.size w0 w) (h : spec_l1Rd_decl.f s0_0 s0_1 = some (r1, r2, r3, r4)) :
  Calls Tryd.prog 98 #[.pointer (some ⟨g, 0, none⟩)] w fun e w' => ∃ v0_ v1_ v2_ : Value, e = .returned (.agg #[v0_, v1_, v2_]) ∧ Kd.R Kd.string 9 w' w.heap.size (fun k_ => some k_ ≠ (v1_ : Value).ownBlock) v0_ r1 ∧ Kd.R Kd.string 9 w' w.heap.size (fun k_ => some k_ ≠ (v0_ : Value).ownBlock) v1_ r2 ∧ Kd.R k91 91 w' w.heap.size (fun _ => True) v2_ r3 ∧ IsS163 w0 w' g s0_0 r4 ∧ Below w0.heap.size w0 w' ∧ KeepBut w w' g none := by
 have HGL := Aside0.mk hI.lt
 have HWL := Aside0.mk hB.size
 have HI_0 := Aside0.mk hI
 have HB := Aside0.mk hB
 have HK := Aside0.mk (KeepBut.refl w g none)
 clear hI hB
 unfold spec_l1Rd_decl.f at h
 replace h := Option.bind_eq_some_iff.mp h
 obtain ⟨⟨a1, a2⟩, hA0, h⟩ := h
 replace h := Option.bind_eq_some_iff.mp h
 obtain ⟨⟨b1, b2⟩, hA1, h⟩ := h
 replace h := Option.bind_eq_some_iff.mp h
 obtain ⟨⟨c1, c2⟩, hA2, h⟩ := h
 replace h := Option.bind_eq_some_iff.mp h
 obtain ⟨⟨fl, d1, fl2⟩, hA3, h⟩ := h
 replace h := Option.bind_eq_some_iff.mp h
 obtain ⟨⟨m1, m2⟩, hA4, h⟩ := h
 replace h := Option.bind_eq_some_iff.mp h
 obtain ⟨⟨ar, ar2⟩, hA5, h⟩ := h
 dsimp only at hA0 hA1 hA2 hA3 hA4 hA5 h
 have hc : 0 ≤ a1 ∧ a1 < 4 ∧ 0 ≤ b1 ∧ b1 < 2 ∧ 0 ≤ d1 ∧ d1 < 4 := by
  by_cases q : 0 ≤ a1 ∧ a1 < 4 ∧ 0 ≤ b1 ∧ b1 < 2 ∧ 0 ≤ d1 ∧ d1 < 4
  ·exact q
  ·rw [if_neg q] at h; cases h
 rw [if_pos hc] at h
 simp only [Option.some.injEq, Prod.mk.injEq] at h
 obtain ⟨rfl, rfl, rfl, rfl⟩ := h
 have A0 := Aside0.mk hA0
 have A1 := Aside0.mk hA1
 have A2 := Aside0.mk hA2
 have A3 := Aside0.mk hA3
 have A4 := Aside0.mk hA4
 have A5 := Aside0.mk hA5
 clear hA0 hA1 hA2 hA3 hA4 hA5
 obtain ⟨n3, hn3⟩ : ∃ n : Nat, (n : Int) = 1 + a1 := ⟨(1 + a1).toNat, by omega⟩
 obtain ⟨n8, hn8⟩ : ∃ n : Nat, (n : Int) = 1 + b1 := ⟨(1 + b1).toNat, by omega⟩
 have hw3 := (i64_w (1 + a1)).trans (show wrap64 (1 + a1) = (n3 : Int) by unfold wrap64; omega)
 have hw8 := (i64_w (1 + b1)).trans (show wrap64 (1 + b1) = (n8 : Int) by unfold wrap64; omega)
 rw [show (1 + a1).toNat = n3 by omega]
 have hb8 : (1 + b1).toNat = n8 := by omega
 rw [hb8] at A3
 have HN := Aside0.mk (show n3 ≤ 4 ∧ n8 ≤ 2 by omega)
 have HD := Aside0.mk (show 0 ≤ d1 ∧ d1 < 4 by omega)
 obtain ⟨i0, hi0, _, hsz, _⟩ := info_parts info9
 have hcut4 : ∀ A : Option Addr, ∀ W : World, (Instr.slice 22 (.slice A 5 5) none (some (.int .i64 (n3 : Int))) none).run Tryd.prog W = .ok (.slice A n3 5) W := fun A => cut_to (P := Tryd.prog) 22 9 .i64 Tryd.underlying22 hi0 A 5 5 (n3 : Int) (by omega) (by omega) (by decide)
 have hcut3 : ∀ A : Option Addr, ∀ W : World, (Instr.slice 22 (.slice A 3 3) none (some (.int .i64 (n8 : Int))) none).run Tryd.prog W = .ok (.slice A n8 3) W := fun A => cut_to (P := Tryd.prog) 22 9 .i64 Tryd.underlying22 hi0 A 3 3 (n8 : Int) (by omega) (by omega) (by decide)
 replace hi0 := Aside0.mk hi0
 clear hsz hc hn3 hn8 hb8
 go_enter Tryd.func98, Tryd.ntmps98
 go_wp2_with ((with_reducible refine gate_dst (N := 2) rfl ?_); refine box_event rfl rfl (cs := #[.slice none 0 0, .slice none 0 0, .slice none 0 0]) (t := 30) (by first | (go_simp; done) | (go_simp; rfl)) ?_; intro gb2 hg w1 hbox hb; have B2 := Aside0.mk (show w1.heap[gb2]? = some (.cells #[.slice none 0 0, .slice none 0 0, .slice none 0 0] 30 (0, 0)) ∧ w.heap.size ≤ gb2 from ⟨hbox, by rw [hg]; exact keep_size HK.out⟩); replace HI_0 := Aside0.mk (HI_0.out.below hb); replace HB := Aside0.mk (below_step HB.out hb); replace HK := Aside0.mk (KeepBut.trans HK.out (KeepBut.of_below hb g none) (.inl rfl)); clear hg hbox hb)
 replace B2 := Aside0.mk (show w1.drew.heap[gb2]? = some (.cells #[.slice none 0 0, .slice none 0 0, .slice none 0 0] 30 (0, 0)) ∧ w.heap.size ≤ gb2 from B2.out)
 replace HI_0 := Aside0.mk (IsS163.drew HI_0.out)
 replace HB := Aside0.mk (below_drew1 HB.out)
 replace HK := Aside0.mk (keep_drew HK.out)
 refine start_ (n := 13) (S := fun w' => True) (ds := []) #[false, false, false, false, false, false, false, false, false, false, false, false, false] (by kernel_rfl) rfl rfl trivial (fun hHeld => ?_)
 refine with_tabW spec_l1Rd_decl.tab1 spec_l1Rd_decl.bits1 (fun HT_ HW_ => ?_)
 generalize w1.drew = wr at B2 HI_0 HB HK hHeld ⊢
 refine pure_ (i := 1) (N := some 5) (v := ?_) (a' := ?_) #[false, true, false, false, false, false, false, false, false, false, false, false, false] rfl rfl (any_of HT_.out (by kernel_rfl)) (fun _ _ _ h => h) (Or.inl ⟨by rfl, ?_⟩) ?_ ?_
 rotate_left
 ·intro w'
  go_simp
  with_reducible rfl
 rotate_left
 ·simp only [Act.put, List.setIfInBounds_toArray, List.set_cons_zero, List.set_cons_succ, i64_w, i32_w]
  rfl
 refine pure_ (i := 6) (N := some 10) (v := ?_) (a' := ?_) #[false, true, false, false, false, false, true, false, false, false, false, false, false] rfl rfl (any_of HT_.out (by kernel_rfl)) (fun _ _ _ h => h) (Or.inl ⟨by rfl, ?_⟩) ?_ ?_
 rotate_left
 ·intro w'
  go_simp
  with_reducible rfl
 rotate_left
 ·simp only [Act.put, List.setIfInBounds_toArray, List.set_cons_zero, List.set_cons_succ, i64_w, i32_w]
  rfl
 refine inv_at [0, 2, 3, 4, 5, 7, 8, 9, 10, 11, 12] (fun a0_ b a w' => ∃ (g4_ : Nat) (g9_ : Nat) (g3_ : Nat) (m0_ : Value) (m4_ : Value) (m5_ : Value) (m9_ : Value) (m10_ : Value) (m11_ : Value), a = putSel a0_ b [(0, 4, m0_), (2, 6, .int .i64 a1), (3, 7, .int .i64 (n3 : Int)), (4, 8, m4_), (5, 9, m5_), (7, 11, .int .i64 b1), (8, 12, .int .i64 (n8 : Int)), (9, 13, m9_), (10, 14, m10_), (11, 3, m11_)] ∧ (b 2 = false → IsS163 w0 w' g s0_0 s0_1) ∧ (b 2 = true → b 7 = false → IsS163 w0 w' g s0_0 a2) ∧ (b 7 = true → IsS163 w0 w' g s0_0 b2) ∧ (Below w0.heap.size w0 w') ∧ (KeepBut w w' g none) ∧ ((w'.heap[gb2]? = some (.cells #[.slice none 0 0, .slice none 0 0, .slice none 0 0] 30 (0, 0)) ∧ w.heap.size ≤ gb2)) ∧ (b 0 = true → (w'.heap[g4_]? = some (.cells #[.string ⟨#[120]⟩, .string ⟨#[121]⟩, .string ⟨#[105]⟩, .string ⟨#[110]⟩, .string ⟨#[107]⟩] 9 (0, 0)) ∧ w.heap.size ≤ g4_)) ∧ (b 5 = true → (w'.heap[g9_]? = some (.cells #[.string ⟨#[98]⟩, .string ⟨#[99]⟩, .string ⟨#[102]⟩] 9 (0, 0)) ∧ w.heap.size ≤ g9_)) ∧ (b 11 = true → b 12 = false → (w'.heap[g3_]? = some (.cells #[.slice none 0 0, .slice none 0 0, .slice none 0 0] 30 (0, 0)) ∧ w.heap.size ≤ g3_)) ∧ (b 12 = true → (w'.heap[g3_]? = some (.cells #[.slice (some ⟨g4_, 0, none⟩) n3 5, .slice (some ⟨g9_, 0, none⟩) n8 3, .slice none 0 0] 30 (0, 0)) ∧ w.heap.size ≤ g3_)) ∧ (b 11 = true → (g3_ ≠ gb2)) ∧ (b 0 = true → (m0_ : Value) = .slice (some ⟨g4_, 0, none⟩) 5 5) ∧ (b 4 = true → (m4_ : Value) = .slice (some ⟨g4_, 0, none⟩) n3 5) ∧ (b 5 = true → (m5_ : Value) = .slice (some ⟨g9_, 0, none⟩) 3 3) ∧ (b 9 = true → (m9_ : Value) = .slice (some ⟨g9_, 0, none⟩) n8 3) ∧ (b 10 = true → (m10_ : Value) = .agg #[.slice (some ⟨g4_, 0, none⟩) n3 5, .slice (some ⟨g9_, 0, none⟩) n8 3, .slice none 0 0]) ∧ (b 11 = true → (m11_ : Value) = .pointer (some ⟨g3_, 0, none⟩))) HT_.out HW_.out (by kernel_rfl) (by kernel_rfl) ?_ ?_ ?_
 ·exact ⟨0, 0, 0, .bool false, .bool false, .bool false, .bool false, .bool false, .bool false, by simp only [putSel, Bool.false_eq_true, if_false], fun _ => HI_0.out, fun h_ => absurd h_ (by decide), fun h_ => absurd h_ (by decide), HB.out, HK.out, B2.out, fun h_ => absurd h_ (by decide), fun h_ => absurd h_ (by decide), fun h_ => absurd h_ (by decide), fun h_ => absurd h_ (by decide), fun h_ => absurd h_ (by decide), fun h_ => absurd h_ (by decide), fun h_ => absurd h_ (by decide), fun h_ => absurd h_ (by decide), fun h_ => absurd h_ (by decide), fun h_ => absurd h_ (by decide), fun h_ => absurd h_ (by decide)⟩
 ·skip
  clear B2 HB HI_0 HK
  refine steps_cons ?_ ?_
  ·rintro b a w' ⟨g4_, g9_, g3_, m0_, m4_, m5_, m9_, m10_, m11_, ha, Q_HI_0, Q_HI_1, Q_HI_2, Q_HB, Q_HK, Q_B2, Q_B4, Q_B9, Q_B3, Q_B3s, Q_N32, Q_X0_, Q_X4_, Q_X5_, Q_X9_, Q_X10_, Q_X11_⟩ hb_ hon hoff
   refine ⟨_, rfl, fun K hK => ?_⟩
   replace ha := Aside0.mk ha
   have HB := Aside0.mk Q_HB
   have HK := Aside0.mk Q_HK
   have B2 := Aside0.mk Q_B2
   refine value_ (w1 := w'.alloc (.cells #[.string ⟨#[120]⟩, .string ⟨#[121]⟩, .string ⟨#[105]⟩, .string ⟨#[110]⟩, .string ⟨#[107]⟩] 9)) (v := .slice (some ⟨w'.heap.size, 0, none⟩) 5 5) (by rfl) rfl ?_ ?_
   ·go_simp
    first | done | rfl
   refine hK.out _ _ ⟨w'.heap.size, g9_, g3_, (.slice (some ⟨w'.heap.size, 0, none⟩) 5 5), m4_, m5_, m9_, m10_, m11_, (by rw [ha.out]; exact putSel_upk 0 hb_ rfl rfl rfl), fun h0_ => (IsS163.alloc (Q_HI_0 h0_) _), fun h0_ h1_ => (IsS163.alloc (Q_HI_1 h0_ h1_) _), fun h0_ => (IsS163.alloc (Q_HI_2 h0_) _), (below_alloc HB.out _), (keep_alloc HK.out _), (spec_l1Rd_decl.blk_al B2.out _), fun _ => ⟨blk_new _ _, keep_size HK.out⟩, fun h0_ => (spec_l1Rd_decl.blk_al (Q_B9 h0_) _), fun h0_ h1_ => (spec_l1Rd_decl.blk_al (Q_B3 h0_ h1_) _), fun h0_ => absurd ((hoff 12 (by kernel_rfl)).symm.trans h0_) (by decide), Q_N32, fun _ => rfl, fun h0_ => absurd ((hoff 4 (by kernel_rfl)).symm.trans h0_) (by decide), Q_X5_, Q_X9_, fun h0_ => absurd ((hoff 10 (by kernel_rfl)).symm.trans h0_) (by decide), Q_X11_⟩
  refine steps_cons ?_ ?_
  ·rintro b a w' ⟨g4_, g9_, g3_, m0_, m4_, m5_, m9_, m10_, m11_, ha, Q_HI_0, Q_HI_1, Q_HI_2, Q_HB, Q_HK, Q_B2, Q_B4, Q_B9, Q_B3, Q_B3s, Q_N32, Q_X0_, Q_X4_, Q_X5_, Q_X9_, Q_X10_, Q_X11_⟩ hb_ hon hoff
   refine ⟨_, rfl, fun K hK => ?_⟩
   have e5 : a.tmps[5]? = some (.pointer (some ⟨g, 0, none⟩)) := by rw [ha]; exact (putSel_off rfl).trans rfl
   replace ha := Aside0.mk ha
   have HI_0 := Aside0.mk (Q_HI_0 hb_)
   have HB := Aside0.mk Q_HB
   have HK := Aside0.mk Q_HK
   have B2 := Aside0.mk Q_B2
   refine goes_ Tryd.func109 (by kernel_rfl) rfl #[.pointer (some ⟨g, 0, none⟩), .int .i64 4] (by rfl) rfl rfl (by first | (simp only [List.map_toArray, List.map_cons, List.map_nil, Act.eval, Array.getD_eq_getD_getElem?, Option.getD_some, e5]; done) | (simp only [List.map_toArray, List.map_cons, List.map_nil, Act.eval, Array.getD_eq_getD_getElem?, Option.getD_some, e5]; rfl)) ?_
   refine (spec_l1Rd_below.calls g s0_0 s0_1 4 a1 a2 w0 _ HI_0.out HB.out A0.out).mono ?_
   rintro e w2 ⟨rfl, hI2, hB2, hK2⟩
   refine ⟨_, rfl, ?_⟩
   refine hK.out _ _ ⟨g4_, g9_, g3_, m0_, m4_, m5_, m9_, m10_, m11_, (by rw [ha.out]; exact putSel_upk 1 hb_ rfl rfl rfl), fun h0_ => absurd ((up_self b 2).symm.trans h0_) (by decide), fun _ _ => hI2, fun h0_ => absurd ((hoff 7 (by kernel_rfl)).symm.trans h0_) (by decide), hB2, (KeepBut.trans HK.out hK2 (.inl rfl)), (spec_l1Rd_decl.blk_call hK2 HGL.out B2.out), fun h0_ => (spec_l1Rd_decl.blk_call hK2 HGL.out (Q_B4 h0_)), fun h0_ => (spec_l1Rd_decl.blk_call hK2 HGL.out (Q_B9 h0_)), fun h0_ h1_ => (spec_l1Rd_decl.blk_call hK2 HGL.out (Q_B3 h0_ h1_)), fun h0_ => absurd ((hoff 12 (by kernel_rfl)).symm.trans h0_) (by decide), Q_N32, Q_X0_, fun h0_ => absurd ((hoff 4 (by kernel_rfl)).symm.trans h0_) (by decide), Q_X5_, fun h0_ => absurd ((hoff 9 (by kernel_rfl)).symm.trans h0_) (by decide), fun h0_ => absurd ((hoff 10 (by kernel_rfl)).symm.trans h0_) (by decide), Q_X11_⟩
  refine steps_cons ?_ ?_
  ·rintro b a w' ⟨g4_, g9_, g3_, m0_, m4_, m5_, m9_, m10_, m11_, ha, Q_HI_0, Q_HI_1, Q_HI_2, Q_HB, Q_HK, Q_B2, Q_B4, Q_B9, Q_B3, Q_B3s, Q_N32, Q_X0_, Q_X4_, Q_X5_, Q_X9_, Q_X10_, Q_X11_⟩ hb_ hon hoff
   refine ⟨_, rfl, fun K hK => ?_⟩
   have e6 : a.tmps[6]? = some (.int .i64 a1) := by rw [ha]; exact putSel_on (e := (2, 6, .int .i64 a1)) 1 rfl rfl (hon 2 (by kernel_rfl)) rfl
   replace ha := Aside0.mk ha
   have HB := Aside0.mk Q_HB
   have HK := Aside0.mk Q_HK
   have B2 := Aside0.mk Q_B2
   refine value_ (w1 := w') (v := .int .i64 (n3 : Int)) (by rfl) rfl ?_ ?_
   ·go_simp
    (try simp only [i64_w])
    try rfl
   refine hK.out _ _ ⟨g4_, g9_, g3_, m0_, m4_, m5_, m9_, m10_, m11_, (by rw [ha.out]; exact putSel_upk 2 hb_ rfl rfl rfl), fun h0_ => absurd ((hon 2 (by kernel_rfl)).symm.trans h0_) (by decide), Q_HI_1, Q_HI_2, Q_HB, Q_HK, Q_B2, Q_B4, Q_B9, Q_B3, fun h0_ => absurd ((hoff 12 (by kernel_rfl)).symm.trans h0_) (by decide), Q_N32, Q_X0_, fun h0_ => absurd ((hoff 4 (by kernel_rfl)).symm.trans h0_) (by decide), Q_X5_, Q_X9_, fun h0_ => absurd ((hoff 10 (by kernel_rfl)).symm.trans h0_) (by decide), Q_X11_⟩
  refine steps_cons ?_ ?_
  ·rintro b a w' ⟨g4_, g9_, g3_, m0_, m4_, m5_, m9_, m10_, m11_, ha, Q_HI_0, Q_HI_1, Q_HI_2, Q_HB, Q_HK, Q_B2, Q_B4, Q_B9, Q_B3, Q_B3s, Q_N32, Q_X0_, Q_X4_, Q_X5_, Q_X9_, Q_X10_, Q_X11_⟩ hb_ hon hoff
   refine ⟨_, rfl, fun K hK => ?_⟩
   have e4 : a.tmps[4]? = some (m0_) := by rw [ha]; exact putSel_on (e := (0, 4, m0_)) 0 rfl rfl (hon 0 (by kernel_rfl)) rfl
   rw [Q_X0_ (hon 0 (by kernel_rfl))] at e4
   have e7 : a.tmps[7]? = some (.int .i64 (n3 : Int)) := by rw [ha]; exact putSel_on (e := (3, 7, .int .i64 (n3 : Int))) 2 rfl rfl (hon 3 (by kernel_rfl)) rfl
   replace ha := Aside0.mk ha
   have HB := Aside0.mk Q_HB
   have HK := Aside0.mk Q_HK
   have B2 := Aside0.mk Q_B2
   have B4 := Aside0.mk (Q_B4 (hon 0 (by kernel_rfl)))
   refine value_ (w1 := w') (v := .slice (some ⟨g4_, 0, none⟩) n3 5) (by rfl) rfl ?_ ?_
   ·go_simp
    (try simp only [i64_w])
    try rfl
   refine hK.out _ _ ⟨g4_, g9_, g3_, m0_, (.slice (some ⟨g4_, 0, none⟩) n3 5), m5_, m9_, m10_, m11_, (by rw [ha.out]; exact putSel_upk 3 hb_ rfl rfl rfl), fun h0_ => absurd ((hon 2 (by kernel_rfl)).symm.trans h0_) (by decide), Q_HI_1, Q_HI_2, Q_HB, Q_HK, Q_B2, Q_B4, Q_B9, Q_B3, fun h0_ => absurd ((hoff 12 (by kernel_rfl)).symm.trans h0_) (by decide), Q_N32, Q_X0_, fun _ => rfl, Q_X5_, Q_X9_, fun h0_ => absurd ((hoff 10 (by kernel_rfl)).symm.trans h0_) (by decide), Q_X11_⟩
  refine steps_cons ?_ ?_
  ·rintro b a w' ⟨g4_, g9_, g3_, m0_, m4_, m5_, m9_, m10_, m11_, ha, Q_HI_0, Q_HI_1, Q_HI_2, Q_HB, Q_HK, Q_B2, Q_B4, Q_B9, Q_B3, Q_B3s, Q_N32, Q_X0_, Q_X4_, Q_X5_, Q_X9_, Q_X10_, Q_X11_⟩ hb_ hon hoff
   refine ⟨_, rfl, fun K hK => ?_⟩
   replace ha := Aside0.mk ha
   have HB := Aside0.mk Q_HB
   have HK := Aside0.mk Q_HK
   have B2 := Aside0.mk Q_B2
   refine value_ (w1 := w'.alloc (.cells #[.string ⟨#[98]⟩, .string ⟨#[99]⟩, .string ⟨#[102]⟩] 9)) (v := .slice (some ⟨w'.heap.size, 0, none⟩) 3 3) (by rfl) rfl ?_ ?_
   ·go_simp
    first | done | rfl
   refine hK.out _ _ ⟨g4_, w'.heap.size, g3_, m0_, m4_, (.slice (some ⟨w'.heap.size, 0, none⟩) 3 3), m9_, m10_, m11_, (by rw [ha.out]; exact putSel_upk 4 hb_ rfl rfl rfl), fun h0_ => (IsS163.alloc (Q_HI_0 h0_) _), fun h0_ h1_ => (IsS163.alloc (Q_HI_1 h0_ h1_) _), fun h0_ => (IsS163.alloc (Q_HI_2 h0_) _), (below_alloc HB.out _), (keep_alloc HK.out _), (spec_l1Rd_decl.blk_al B2.out _), fun h0_ => (spec_l1Rd_decl.blk_al (Q_B4 h0_) _), fun _ => ⟨blk_new _ _, keep_size HK.out⟩, fun h0_ h1_ => (spec_l1Rd_decl.blk_al (Q_B3 h0_ h1_) _), fun h0_ => absurd ((hoff 12 (by kernel_rfl)).symm.trans h0_) (by decide), Q_N32, Q_X0_, Q_X4_, fun _ => rfl, fun h0_ => absurd ((hoff 9 (by kernel_rfl)).symm.trans h0_) (by decide), fun h0_ => absurd ((hoff 10 (by kernel_rfl)).symm.trans h0_) (by decide), Q_X11_⟩
  refine steps_cons ?_ ?_
  ·rintro b a w' ⟨g4_, g9_, g3_, m0_, m4_, m5_, m9_, m10_, m11_, ha, Q_HI_0, Q_HI_1, Q_HI_2, Q_HB, Q_HK, Q_B2, Q_B4, Q_B9, Q_B3, Q_B3s, Q_N32, Q_X0_, Q_X4_, Q_X5_, Q_X9_, Q_X10_, Q_X11_⟩ hb_ hon hoff
   refine ⟨_, rfl, fun K hK => ?_⟩
   have e10 : a.tmps[10]? = some (.pointer (some ⟨g, 0, none⟩)) := by rw [ha]; exact (putSel_off rfl).trans rfl
   replace ha := Aside0.mk ha
   have HI_1 := Aside0.mk (Q_HI_1 (hon 2 (by kernel_rfl)) hb_)
   have HB := Aside0.mk Q_HB
   have HK := Aside0.mk Q_HK
   have B2 := Aside0.mk Q_B2
   refine goes_ Tryd.func109 (by kernel_rfl) rfl #[.pointer (some ⟨g, 0, none⟩), .int .i64 2] (by rfl) rfl rfl (by first | (simp only [List.map_toArray, List.map_cons, List.map_nil, Act.eval, Array.getD_eq_getD_getElem?, Option.getD_some, e10]; done) | (simp only [List.map_toArray, List.map_cons, List.map_nil, Act.eval, Array.getD_eq_getD_getElem?, Option.getD_some, e10]; rfl)) ?_
   refine (spec_l1Rd_below.calls g s0_0 a2 2 b1 b2 w0 _ HI_1.out HB.out A1.out).mono ?_
   rintro e w2 ⟨rfl, hI2, hB2, hK2⟩
   refine ⟨_, rfl, ?_⟩
   refine hK.out _ _ ⟨g4_, g9_, g3_, m0_, m4_, m5_, m9_, m10_, m11_, (by rw [ha.out]; exact putSel_upk 5 hb_ rfl rfl rfl), fun h0_ => absurd ((hon 2 (by kernel_rfl)).symm.trans h0_) (by decide), fun _ h1_ => absurd ((up_self b 7).symm.trans h1_) (by decide), fun _ => hI2, hB2, (KeepBut.trans HK.out hK2 (.inl rfl)), (spec_l1Rd_decl.blk_call hK2 HGL.out B2.out), fun h0_ => (spec_l1Rd_decl.blk_call hK2 HGL.out (Q_B4 h0_)), fun h0_ => (spec_l1Rd_decl.blk_call hK2 HGL.out (Q_B9 h0_)), fun h0_ h1_ => (spec_l1Rd_decl.blk_call hK2 HGL.out (Q_B3 h0_ h1_)), fun h0_ => absurd ((hoff 12 (by kernel_rfl)).symm.trans h0_) (by decide), Q_N32, Q_X0_, Q_X4_, Q_X5_, fun h0_ => absurd ((hoff 9 (by kernel_rfl)).symm.trans h0_) (by decide), fun h0_ => absurd ((hoff 10 (by kernel_rfl)).symm.trans h0_) (by decide), Q_X11_⟩
  refine steps_cons ?_ ?_
  ·rintro b a w' ⟨g4_, g9_, g3_, m0_, m4_, m5_, m9_, m10_, m11_, ha, Q_HI_0, Q_HI_1, Q_HI_2, Q_HB, Q_HK, Q_B2, Q_B4, Q_B9, Q_B3, Q_B3s, Q_N32, Q_X0_, Q_X4_, Q_X5_, Q_X9_, Q_X10_, Q_X11_⟩ hb_ hon hoff
   refine ⟨_, rfl, fun K hK => ?_⟩
   have e11 : a.tmps[11]? = some (.int .i64 b1) := by rw [ha]; exact putSel_on (e := (7, 11, .int .i64 b1)) 5 rfl rfl (hon 7 (by kernel_rfl)) rfl
   replace ha := Aside0.mk ha
   have HI_2 := Aside0.mk (Q_HI_2 (hon 7 (by kernel_rfl)))
   have HB := Aside0.mk Q_HB
   have HK := Aside0.mk Q_HK
   have B2 := Aside0.mk Q_B2
   refine value_ (w1 := w') (v := .int .i64 (n8 : Int)) (by rfl) rfl ?_ ?_
   ·go_simp
    (try simp only [i64_w])
    try rfl
   refine hK.out _ _ ⟨g4_, g9_, g3_, m0_, m4_, m5_, m9_, m10_, m11_, (by rw [ha.out]; exact putSel_upk 6 hb_ rfl rfl rfl), fun h0_ => absurd ((hon 2 (by kernel_rfl)).symm.trans h0_) (by decide), fun _ h1_ => absurd ((hon 7 (by kernel_rfl)).symm.trans h1_) (by decide), Q_HI_2, Q_HB, Q_HK, Q_B2, Q_B4, Q_B9, Q_B3, fun h0_ => absurd ((hoff 12 (by kernel_rfl)).symm.trans h0_) (by decide), Q_N32, Q_X0_, Q_X4_, Q_X5_, fun h0_ => absurd ((hoff 9 (by kernel_rfl)).symm.trans h0_) (by decide), fun h0_ => absurd ((hoff 10 (by kernel_rfl)).symm.trans h0_) (by decide), Q_X11_⟩
  refine steps_cons ?_ ?_
  ·rintro b a w' ⟨g4_, g9_, g3_, m0_, m4_, m5_, m9_, m10_, m11_, ha, Q_HI_0, Q_HI_1, Q_HI_2, Q_HB, Q_HK, Q_B2, Q_B4, Q_B9, Q_B3, Q_B3s, Q_N32, Q_X0_, Q_X4_, Q_X5_, Q_X9_, Q_X10_, Q_X11_⟩ hb_ hon hoff
   refine ⟨_, rfl, fun K hK => ?_⟩
   have e9 : a.tmps[9]? = some (m5_) := by rw [ha]; exact putSel_on (e := (5, 9, m5_)) 4 rfl rfl (hon 5 (by kernel_rfl)) rfl
   rw [Q_X5_ (hon 5 (by kernel_rfl))] at e9
   have e12 : a.tmps[12]? = some (.int .i64 (n8 : Int)) := by rw [ha]; exact putSel_on (e := (8, 12, .int .i64 (n8 : Int))) 6 rfl rfl (hon 8 (by kernel_rfl)) rfl
   replace ha := Aside0.mk ha
   have HI_2 := Aside0.mk (Q_HI_2 (hon 7 (by kernel_rfl)))
   have HB := Aside0.mk Q_HB
   have HK := Aside0.mk Q_HK
   have B2 := Aside0.mk Q_B2
   have B9 := Aside0.mk (Q_B9 (hon 5 (by kernel_rfl)))
   refine value_ (w1 := w') (v := .slice (some ⟨g9_, 0, none⟩) n8 3) (by rfl) rfl ?_ ?_
   ·go_simp
    (try simp only [i64_w])
    try rfl
   refine hK.out _ _ ⟨g4_, g9_, g3_, m0_, m4_, m5_, (.slice (some ⟨g9_, 0, none⟩) n8 3), m10_, m11_, (by rw [ha.out]; exact putSel_upk 7 hb_ rfl rfl rfl), fun h0_ => absurd ((hon 2 (by kernel_rfl)).symm.trans h0_) (by decide), fun _ h1_ => absurd ((hon 7 (by kernel_rfl)).symm.trans h1_) (by decide), Q_HI_2, Q_HB, Q_HK, Q_B2, Q_B4, Q_B9, Q_B3, fun h0_ => absurd ((hoff 12 (by kernel_rfl)).symm.trans h0_) (by decide), Q_N32, Q_X0_, Q_X4_, Q_X5_, fun _ => rfl, fun h0_ => absurd ((hoff 10 (by kernel_rfl)).symm.trans h0_) (by decide), Q_X11_⟩
  refine steps_cons ?_ ?_
  ·rintro b a w' ⟨g4_, g9_, g3_, m0_, m4_, m5_, m9_, m10_, m11_, ha, Q_HI_0, Q_HI_1, Q_HI_2, Q_HB, Q_HK, Q_B2, Q_B4, Q_B9, Q_B3, Q_B3s, Q_N32, Q_X0_, Q_X4_, Q_X5_, Q_X9_, Q_X10_, Q_X11_⟩ hb_ hon hoff
   refine ⟨_, rfl, fun K hK => ?_⟩
   have e8 : a.tmps[8]? = some (m4_) := by rw [ha]; exact putSel_on (e := (4, 8, m4_)) 3 rfl rfl (hon 4 (by kernel_rfl)) rfl
   rw [Q_X4_ (hon 4 (by kernel_rfl))] at e8
   have e13 : a.tmps[13]? = some (m9_) := by rw [ha]; exact putSel_on (e := (9, 13, m9_)) 7 rfl rfl (hon 9 (by kernel_rfl)) rfl
   rw [Q_X9_ (hon 9 (by kernel_rfl))] at e13
   replace ha := Aside0.mk ha
   have HI_2 := Aside0.mk (Q_HI_2 (hon 7 (by kernel_rfl)))
   have HB := Aside0.mk Q_HB
   have HK := Aside0.mk Q_HK
   have B2 := Aside0.mk Q_B2
   have B4 := Aside0.mk (Q_B4 (hon 0 (by kernel_rfl)))
   have B9 := Aside0.mk (Q_B9 (hon 5 (by kernel_rfl)))
   refine value_ (w1 := w') (v := .agg #[.slice (some ⟨g4_, 0, none⟩) n3 5, .slice (some ⟨g9_, 0, none⟩) n8 3, .slice none 0 0]) (by rfl) rfl ?_ ?_
   ·go_simp
    (try simp only [i64_w])
    try rfl
   refine hK.out _ _ ⟨g4_, g9_, g3_, m0_, m4_, m5_, m9_, (.agg #[.slice (some ⟨g4_, 0, none⟩) n3 5, .slice (some ⟨g9_, 0, none⟩) n8 3, .slice none 0 0]), m11_, (by rw [ha.out]; exact putSel_upk 8 hb_ rfl rfl rfl), fun h0_ => absurd ((hon 2 (by kernel_rfl)).symm.trans h0_) (by decide), fun _ h1_ => absurd ((hon 7 (by kernel_rfl)).symm.trans h1_) (by decide), Q_HI_2, Q_HB, Q_HK, Q_B2, Q_B4, Q_B9, Q_B3, fun h0_ => absurd ((hoff 12 (by kernel_rfl)).symm.trans h0_) (by decide), Q_N32, Q_X0_, Q_X4_, Q_X5_, Q_X9_, fun _ => rfl, Q_X11_⟩
  refine steps_cons ?_ ?_
  ·rintro b a w' ⟨g4_, g9_, g3_, m0_, m4_, m5_, m9_, m10_, m11_, ha, Q_HI_0, Q_HI_1, Q_HI_2, Q_HB, Q_HK, Q_B2, Q_B4, Q_B9, Q_B3, Q_B3s, Q_N32, Q_X0_, Q_X4_, Q_X5_, Q_X9_, Q_X10_, Q_X11_⟩ hb_ hon hoff
   refine ⟨_, rfl, fun K hK => ?_⟩
   replace ha := Aside0.mk ha
   have HB := Aside0.mk Q_HB
   have HK := Aside0.mk Q_HK
   have B2 := Aside0.mk Q_B2
   refine value_ (w1 := w'.alloc (.cells #[.slice none 0 0, .slice none 0 0, .slice none 0 0] 30)) (v := .pointer (some ⟨w'.heap.size, 0, none⟩)) (by rfl) rfl ?_ ?_
   ·go_simp
    first | done | rfl
   refine hK.out _ _ ⟨g4_, g9_, w'.heap.size, m0_, m4_, m5_, m9_, m10_, (.pointer (some ⟨w'.heap.size, 0, none⟩)), (by rw [ha.out]; exact putSel_upk 9 hb_ rfl rfl rfl), fun h0_ => (IsS163.alloc (Q_HI_0 h0_) _), fun h0_ h1_ => (IsS163.alloc (Q_HI_1 h0_ h1_) _), fun h0_ => (IsS163.alloc (Q_HI_2 h0_) _), (below_alloc HB.out _), (keep_alloc HK.out _), (spec_l1Rd_decl.blk_al B2.out _), fun h0_ => (spec_l1Rd_decl.blk_al (Q_B4 h0_) _), fun h0_ => (spec_l1Rd_decl.blk_al (Q_B9 h0_) _), fun _ _ => ⟨blk_new _ _, keep_size HK.out⟩, fun h0_ => absurd ((hoff 12 (by kernel_rfl)).symm.trans h0_) (by decide), fun _ => (Nat.ne_of_gt (blk_lt B2.out.1)), Q_X0_, Q_X4_, Q_X5_, Q_X9_, Q_X10_, fun _ => rfl⟩
  refine steps_cons ?_ ?_
  ·rintro b a w' ⟨g4_, g9_, g3_, m0_, m4_, m5_, m9_, m10_, m11_, ha, Q_HI_0, Q_HI_1, Q_HI_2, Q_HB, Q_HK, Q_B2, Q_B4, Q_B9, Q_B3, Q_B3s, Q_N32, Q_X0_, Q_X4_, Q_X5_, Q_X9_, Q_X10_, Q_X11_⟩ hb_ hon hoff
   refine ⟨_, rfl, fun K hK => ?_⟩
   have e3 : a.tmps[3]? = some (m11_) := by rw [ha]; exact putSel_on (e := (11, 3, m11_)) 9 rfl rfl (hon 11 (by kernel_rfl)) rfl
   rw [Q_X11_ (hon 11 (by kernel_rfl))] at e3
   have e14 : a.tmps[14]? = some (m10_) := by rw [ha]; exact putSel_on (e := (10, 14, m10_)) 8 rfl rfl (hon 10 (by kernel_rfl)) rfl
   rw [Q_X10_ (hon 10 (by kernel_rfl))] at e14
   replace ha := Aside0.mk ha
   have HI_2 := Aside0.mk (Q_HI_2 (hon 7 (by kernel_rfl)))
   have HB := Aside0.mk Q_HB
   have HK := Aside0.mk Q_HK
   have B2 := Aside0.mk Q_B2
   have B4 := Aside0.mk (Q_B4 (hon 0 (by kernel_rfl)))
   have B9 := Aside0.mk (Q_B9 (hon 5 (by kernel_rfl)))
   have B3 := Aside0.mk (Q_B3 (hon 11 (by kernel_rfl)) hb_)
   have N32 := Aside0.mk (Q_N32 (hon 11 (by kernel_rfl)))
   have hc0 : w'.cell? ⟨g3_, 0, none⟩ = some (.slice none 0 0) := (blk_cell B3.out.1 0).trans rfl
   have hc1 : w'.cell? ⟨g3_, 1, none⟩ = some (.slice none 0 0) := (blk_cell B3.out.1 1).trans rfl
   have hc2 : w'.cell? ⟨g3_, 2, none⟩ = some (.slice none 0 0) := (blk_cell B3.out.1 2).trans rfl
   have hfz0 := blk_frozen B3.out.1 0
   have hfz1 := blk_frozen B3.out.1 1
   have hfz2 := blk_frozen B3.out.1 2
   refine skip_ (w1 := ((w'.setCell ⟨g3_, 0, none⟩ (.slice (some ⟨g4_, 0, none⟩) n3 5)).setCell ⟨g3_, 1, none⟩ (.slice (some ⟨g9_, 0, none⟩) n8 3)).setCell ⟨g3_, 2, none⟩ (.slice none 0 0)) (by rfl) rfl ?_ ?_
   ·go_simp
    first | done | rfl
   refine hK.out _ _ ⟨g4_, g9_, g3_, m0_, m4_, m5_, m9_, m10_, m11_, (by rw [ha.out]; exact putSel_none (v := undef) rfl), fun h0_ => absurd ((hon 2 (by kernel_rfl)).symm.trans h0_) (by decide), fun _ h1_ => absurd ((hon 7 (by kernel_rfl)).symm.trans h1_) (by decide), fun _ => (spec_l1Rd_decl.is_set HI_2.out (Nat.ne_of_lt (Nat.lt_of_lt_of_le HGL.out B3.out.2)) _ _ _), (below_set (below_set (below_set HB.out (Nat.le_trans HWL.out B3.out.2)) (Nat.le_trans HWL.out B3.out.2)) (Nat.le_trans HWL.out B3.out.2)), (keep_far (keep_far (keep_far HK.out B3.out.2 _) B3.out.2 _) B3.out.2 _), (spec_l1Rd_decl.blk_far2 B2.out N32.out.symm _ _ _), fun _ => (spec_l1Rd_decl.blk_far B4.out B3.out.1 (by decide) _ _ _), fun _ => (spec_l1Rd_decl.blk_far B9.out B3.out.1 (by decide) _ _ _), fun _ h1_ => absurd ((up_self b 12).symm.trans h1_) (by decide), fun _ => ⟨blk_put (blk_put (blk_put B3.out.1 0 _ rfl) 1 _ rfl) 2 _ rfl, B3.out.2⟩, Q_N32, Q_X0_, Q_X4_, Q_X5_, Q_X9_, Q_X10_, Q_X11_⟩
  exact steps_nil
 rintro b a w1 hall ⟨g4_, g9_, g3_, m0_, m4_, m5_, m9_, m10_, m11_, ha, Q_HI_0, Q_HI_1, Q_HI_2, Q_HB, Q_HK, Q_B2, Q_B4, Q_B9, Q_B3, Q_B3s, Q_N32, Q_X0_, Q_X4_, Q_X5_, Q_X9_, Q_X10_, Q_X11_⟩
 clear B2 HB HI_0 HK
 have hb0_ := hall 0 (by kernel_rfl)
 have hb2_ := hall 2 (by kernel_rfl)
 have hb3_ := hall 3 (by kernel_rfl)
 have hb4_ := hall 4 (by kernel_rfl)
 have hb5_ := hall 5 (by kernel_rfl)
 have hb7_ := hall 7 (by kernel_rfl)
 have hb8_ := hall 8 (by kernel_rfl)
 have hb9_ := hall 9 (by kernel_rfl)
 have hb10_ := hall 10 (by kernel_rfl)
 have hb11_ := hall 11 (by kernel_rfl)
 have hb12_ := hall 12 (by kernel_rfl)
 subst ha
 obtain rfl := Q_X0_ hb0_
 obtain rfl := Q_X4_ hb4_
 obtain rfl := Q_X5_ hb5_
 obtain rfl := Q_X9_ hb9_
 obtain rfl := Q_X10_ hb10_
 obtain rfl := Q_X11_ hb11_
 simp only [putSel, hb0_, hb2_, hb3_, hb4_, hb5_, hb7_, hb8_, hb9_, hb10_, hb11_, hb12_, if_true, Act.put, List.setIfInBounds_toArray, List.set_cons_zero, List.set_cons_succ]
 clear Q_HI_0
 clear Q_HI_1
 have HI_2 := Aside0.mk (Q_HI_2 hb7_)
 clear Q_HI_2
 have HB := Aside0.mk Q_HB
 clear Q_HB
 have HK := Aside0.mk Q_HK
 clear Q_HK
 have B2 := Aside0.mk Q_B2
 clear Q_B2
 have B4 := Aside0.mk (Q_B4 hb0_)
 clear Q_B4
 have B9 := Aside0.mk (Q_B9 hb5_)
 clear Q_B9
 clear Q_B3
 have B3s := Aside0.mk (Q_B3s hb12_)
 clear Q_B3s
 have N32 := Aside0.mk (Q_N32 hb11_)
 clear Q_N32
 clear hall hb0_ hb2_ hb3_ hb4_ hb5_ hb7_ hb8_ hb9_ hb10_ hb11_ hb12_
 clear hcut4 hcut3 hw3 hw8
 cases c1 with
 | false =>
  have H3 := A3.out
  clear A3
  rw [if_neg (by decide)] at H3
  simp only [Option.some.injEq, Prod.mk.injEq] at H3
  obtain ⟨rfl, rfl, rfl⟩ := H3
  cases m1 with
  | false =>
   have H5 := A5.out
   clear A5
   rw [if_neg (by decide)] at H5
   simp only [Option.some.injEq, Prod.mk.injEq] at H5
   obtain ⟨rfl, rfl⟩ := H5
   go_wp2_with fail
   refine (spec_l1Rd_once.calls g s0_0 b2 3 false c2 w0 _ HI_2.out HB.out A2.out).mono ?_
   rintro e w2 ⟨rfl, hI2, hB2, hK2⟩
   have B2_ := Aside0.mk (spec_l1Rd_decl.blk_call hK2 HGL.out B2.out)
   have B4_ := Aside0.mk (spec_l1Rd_decl.blk_call hK2 HGL.out B4.out)
   have B9_ := Aside0.mk (spec_l1Rd_decl.blk_call hK2 HGL.out B9.out)
   have HK_ := Aside0.mk (KeepBut.trans HK.out hK2 (.inl rfl))
   replace B3s := Aside0.mk (spec_l1Rd_decl.blk_call hK2 HGL.out B3s.out)
   replace B2 := B2_
   replace B4 := B4_
   replace B9 := B9_
   replace HK := HK_
   replace HI_2 := Aside0.mk hI2
   replace HB := Aside0.mk hB2
   clear hI2 hB2 hK2 HK_ B2_ B4_ B9_
   go_wp2_with fail
   refine (spec_l1Rd_once.calls g s0_0 c2 2 false m2 w0 _ HI_2.out HB.out A4.out).mono ?_
   rintro e w3 ⟨rfl, hI2, hB2, hK2⟩
   have B2_ := Aside0.mk (spec_l1Rd_decl.blk_call hK2 HGL.out B2.out)
   have B4_ := Aside0.mk (spec_l1Rd_decl.blk_call hK2 HGL.out B4.out)
   have B9_ := Aside0.mk (spec_l1Rd_decl.blk_call hK2 HGL.out B9.out)
   have HK_ := Aside0.mk (KeepBut.trans HK.out hK2 (.inl rfl))
   replace B3s := Aside0.mk (spec_l1Rd_decl.blk_call hK2 HGL.out B3s.out)
   replace B2 := B2_
   replace B4 := B4_
   replace B9 := B9_
   replace HK := HK_
   replace HI_2 := Aside0.mk hI2
   replace HB := Aside0.mk hB2
   clear hI2 hB2 hK2 HK_ B2_ B4_ B9_
   have hl0 : w3.cell? ⟨g3_, 0, none⟩ = some (.slice (some ⟨g4_, 0, none⟩) n3 5) := (blk_cell B3s.out.1 0).trans rfl
   have hl1 : w3.cell? ⟨g3_, 1, none⟩ = some (.slice (some ⟨g9_, 0, none⟩) n8 3) := (blk_cell B3s.out.1 1).trans rfl
   have hl2 : w3.cell? ⟨g3_, 2, none⟩ = some (.slice none 0 0) := (blk_cell B3s.out.1 2).trans rfl
   have hk0 : w3.cell? ⟨gb2, 0, none⟩ = some (.slice none 0 0) := (blk_cell B2.out.1 0).trans rfl
   have hk1 : w3.cell? ⟨gb2, 1, none⟩ = some (.slice none 0 0) := (blk_cell B2.out.1 1).trans rfl
   have hk2 : w3.cell? ⟨gb2, 2, none⟩ = some (.slice none 0 0) := (blk_cell B2.out.1 2).trans rfl
   have hf0 := blk_frozen B2.out.1 0
   have hf1 := blk_frozen B2.out.1 1
   have hf2 := blk_frozen B2.out.1 2
   go_wp2
   refine bodyPost_ret (results_cell_row rfl _ _ gb2 30 #[.slice (some ⟨g4_, 0, none⟩) n3 5, .slice (some ⟨g9_, 0, none⟩) n8 3, .slice none 0 0] (0, 0) _ rfl (blk_put (blk_put (blk_put B2.out.1 0 _ rfl) 1 _ rfl) 2 _ rfl) Tryd.underlying30 rfl (by kernel_rfl)) rfl ?_
   refine ⟨.slice (some ⟨g4_, 0, none⟩) n3 5, .slice (some ⟨g9_, 0, none⟩) n8 3, .slice none 0 0, rfl, ?_, ?_, ?_, ?_, ?_, ?_⟩
   ·exact spec_l1Rd_decl.row (xs := spec_l1Rd_decl.names [120, 121, 105, 110, 107]) (spec_l1Rd_decl.blk_far2 B4.out (spec_l1Rd_decl.blk_ne B4.out.1 B2.out.1 (by decide)) _ _ _) rfl rfl (by have := HN.out; omega) (by decide) (fun e_ => spec_l1Rd_decl.blk_sz B4.out.1 B9.out.1 (by decide) (Option.some.inj e_))
   ·exact spec_l1Rd_decl.row (xs := spec_l1Rd_decl.names [98, 99, 102]) (spec_l1Rd_decl.blk_far2 B9.out (spec_l1Rd_decl.blk_ne B9.out.1 B2.out.1 (by decide)) _ _ _) rfl rfl (by have := HN.out; omega) (by decide) (fun e_ => spec_l1Rd_decl.blk_sz B9.out.1 B4.out.1 (by decide) (Option.some.inj e_))
   ·exact Kd.R_nil _ _ _ _ _
   ·exact spec_l1Rd_decl.is_set HI_2.out (Nat.ne_of_lt (Nat.lt_of_lt_of_le HGL.out B2.out.2)) _ _ _
   ·exact below_set (below_set (below_set HB.out (Nat.le_trans HWL.out B2.out.2)) (Nat.le_trans HWL.out B2.out.2)) (Nat.le_trans HWL.out B2.out.2)
   ·exact keep_far (keep_far (keep_far HK.out B2.out.2 _) B2.out.2 _) B2.out.2 _
  | true =>
   have H5 := A5.out
   clear A5
   rw [if_pos rfl] at H5
   replace H5 := Option.bind_eq_some_iff.mp H5
   go_wp2_with fail
   refine (spec_l1Rd_once.calls g s0_0 b2 3 false c2 w0 _ HI_2.out HB.out A2.out).mono ?_
   rintro e w2 ⟨rfl, hI2, hB2, hK2⟩
   have B2_ := Aside0.mk (spec_l1Rd_decl.blk_call hK2 HGL.out B2.out)
   have B4_ := Aside0.mk (spec_l1Rd_decl.blk_call hK2 HGL.out B4.out)
   have B9_ := Aside0.mk (spec_l1Rd_decl.blk_call hK2 HGL.out B9.out)
   have HK_ := Aside0.mk (KeepBut.trans HK.out hK2 (.inl rfl))
   replace B3s := Aside0.mk (spec_l1Rd_decl.blk_call hK2 HGL.out B3s.out)
   replace B2 := B2_
   replace B4 := B4_
   replace B9 := B9_
   replace HK := HK_
   replace HI_2 := Aside0.mk hI2
   replace HB := Aside0.mk hB2
   clear hI2 hB2 hK2 HK_ B2_ B4_ B9_
   go_wp2_with fail
   refine (spec_l1Rd_once.calls g s0_0 c2 2 true m2 w0 _ HI_2.out HB.out A4.out).mono ?_
   rintro e w3 ⟨rfl, hI2, hB2, hK2⟩
   have B2_ := Aside0.mk (spec_l1Rd_decl.blk_call hK2 HGL.out B2.out)
   have B4_ := Aside0.mk (spec_l1Rd_decl.blk_call hK2 HGL.out B4.out)
   have B9_ := Aside0.mk (spec_l1Rd_decl.blk_call hK2 HGL.out B9.out)
   have HK_ := Aside0.mk (KeepBut.trans HK.out hK2 (.inl rfl))
   replace B3s := Aside0.mk (spec_l1Rd_decl.blk_call hK2 HGL.out B3s.out)
   replace B2 := B2_
   replace B4 := B4_
   replace B9 := B9_
   replace HK := HK_
   replace HI_2 := Aside0.mk hI2
   replace HB := Aside0.mk hB2
   clear hI2 hB2 hK2 HK_ B2_ B4_ B9_
   obtain ⟨⟨z1_, z2_⟩, hZ_, H5_⟩ := H5
   simp only [Option.some.injEq, Prod.mk.injEq] at H5_
   obtain ⟨har, rfl⟩ := H5_
   have A5z := Aside0.mk hZ_
   clear hZ_
   obtain ⟨y1, hy1⟩ : ∃ y_ : Int, y_ = wrap64 (1 + z1_) := ⟨_, rfl⟩
   rw [← hy1] at har
   have HAR := Aside0.mk har
   clear har
   have hy2 := (i64_w (1 + z1_)).trans hy1.symm
   clear hy1
   go_wp2_with fail
   refine (spec_l1Rd_below.calls g s0_0 m2 6 z1_ z2_ w0 _ HI_2.out HB.out A5z.out).mono ?_
   rintro e w4 ⟨rfl, hI2, hB2, hK2⟩
   have B2_ := Aside0.mk (spec_l1Rd_decl.blk_call hK2 HGL.out B2.out)
   have B4_ := Aside0.mk (spec_l1Rd_decl.blk_call hK2 HGL.out B4.out)
   have B9_ := Aside0.mk (spec_l1Rd_decl.blk_call hK2 HGL.out B9.out)
   have HK_ := Aside0.mk (KeepBut.trans HK.out hK2 (.inl rfl))
   replace B3s := Aside0.mk (spec_l1Rd_decl.blk_call hK2 HGL.out B3s.out)
   replace B2 := B2_
   replace B4 := B4_
   replace B9 := B9_
   replace HK := HK_
   replace HI_2 := Aside0.mk hI2
   replace HB := Aside0.mk hB2
   clear hI2 hB2 hK2 HK_ B2_ B4_ B9_
   have BA := Aside0.mk (show (w4.alloc (.cells #[.string ⟨#[97]⟩, .int .i64 y1] 91)).heap[w4.heap.size]? = some (.cells #[.string ⟨#[97]⟩, .int .i64 y1] 91 (0, 0)) ∧ w.heap.size ≤ w4.heap.size from ⟨blk_new _ _, keep_size HK.out⟩)
   replace B2 := Aside0.mk (spec_l1Rd_decl.blk_al B2.out (.cells #[.string ⟨#[97]⟩, .int .i64 y1] 91))
   replace B3s := Aside0.mk (spec_l1Rd_decl.blk_al B3s.out (.cells #[.string ⟨#[97]⟩, .int .i64 y1] 91))
   replace B4 := Aside0.mk (spec_l1Rd_decl.blk_al B4.out (.cells #[.string ⟨#[97]⟩, .int .i64 y1] 91))
   replace B9 := Aside0.mk (spec_l1Rd_decl.blk_al B9.out (.cells #[.string ⟨#[97]⟩, .int .i64 y1] 91))
   replace HI_2 := Aside0.mk (IsS163.alloc HI_2.out (.cells #[.string ⟨#[97]⟩, .int .i64 y1] 91))
   replace HB := Aside0.mk (below_alloc HB.out (.cells #[.string ⟨#[97]⟩, .int .i64 y1] 91))
   replace HK := Aside0.mk (keep_alloc HK.out (.cells #[.string ⟨#[97]⟩, .int .i64 y1] 91))
   have hs2 : (w4.alloc (.cells #[.string ⟨#[97]⟩, .int .i64 y1] 91)).cell? ⟨g3_, 2, none⟩ = some (.slice none 0 0) := (blk_cell B3s.out.1 2).trans rfl
   have hfs := blk_frozen B3s.out.1 2
   have BP := Aside0.mk (spec_l1Rd_decl.put1 B3s.out 2 (.slice (some ⟨w4.heap.size, 0, none⟩) 1 1) #[.slice (some ⟨g4_, 0, none⟩) n3 5, .slice (some ⟨g9_, 0, none⟩) n8 3, .slice (some ⟨w4.heap.size, 0, none⟩) 1 1] rfl)
   have BQ := Aside0.mk (spec_l1Rd_decl.far1 B2.out N32.out.symm 2 (.slice (some ⟨w4.heap.size, 0, none⟩) 1 1))
   have hl0 : ((w4.alloc (.cells #[.string ⟨#[97]⟩, .int .i64 y1] 91)).setCell ⟨g3_, 2, none⟩ (.slice (some ⟨w4.heap.size, 0, none⟩) 1 1)).cell? ⟨g3_, 0, none⟩ = some (.slice (some ⟨g4_, 0, none⟩) n3 5) := (blk_cell BP.out.1 0).trans rfl
   have hl1 : ((w4.alloc (.cells #[.string ⟨#[97]⟩, .int .i64 y1] 91)).setCell ⟨g3_, 2, none⟩ (.slice (some ⟨w4.heap.size, 0, none⟩) 1 1)).cell? ⟨g3_, 1, none⟩ = some (.slice (some ⟨g9_, 0, none⟩) n8 3) := (blk_cell BP.out.1 1).trans rfl
   have hl2 : ((w4.alloc (.cells #[.string ⟨#[97]⟩, .int .i64 y1] 91)).setCell ⟨g3_, 2, none⟩ (.slice (some ⟨w4.heap.size, 0, none⟩) 1 1)).cell? ⟨g3_, 2, none⟩ = some (.slice (some ⟨w4.heap.size, 0, none⟩) 1 1) := (blk_cell BP.out.1 2).trans rfl
   have hk0 : ((w4.alloc (.cells #[.string ⟨#[97]⟩, .int .i64 y1] 91)).setCell ⟨g3_, 2, none⟩ (.slice (some ⟨w4.heap.size, 0, none⟩) 1 1)).cell? ⟨gb2, 0, none⟩ = some (.slice none 0 0) := (blk_cell BQ.out.1 0).trans rfl
   have hk1 : ((w4.alloc (.cells #[.string ⟨#[97]⟩, .int .i64 y1] 91)).setCell ⟨g3_, 2, none⟩ (.slice (some ⟨w4.heap.size, 0, none⟩) 1 1)).cell? ⟨gb2, 1, none⟩ = some (.slice none 0 0) := (blk_cell BQ.out.1 1).trans rfl
   have hk2 : ((w4.alloc (.cells #[.string ⟨#[97]⟩, .int .i64 y1] 91)).setCell ⟨g3_, 2, none⟩ (.slice (some ⟨w4.heap.size, 0, none⟩) 1 1)).cell? ⟨gb2, 2, none⟩ = some (.slice none 0 0) := (blk_cell BQ.out.1 2).trans rfl
   have hf0 := blk_frozen BQ.out.1 0
   have hf1 := blk_frozen BQ.out.1 1
   have hf2 := blk_frozen BQ.out.1 2
   go_wp2
   refine bodyPost_ret (results_cell_row rfl _ _ gb2 30 #[.slice (some ⟨g4_, 0, none⟩) n3 5, .slice (some ⟨g9_, 0, none⟩) n8 3, .slice (some ⟨w4.heap.size, 0, none⟩) 1 1] (0, 0) _ rfl (blk_put (blk_put (blk_put BQ.out.1 0 _ rfl) 1 _ rfl) 2 _ rfl) Tryd.underlying30 rfl (by kernel_rfl)) rfl ?_
   refine ⟨.slice (some ⟨g4_, 0, none⟩) n3 5, .slice (some ⟨g9_, 0, none⟩) n8 3, .slice (some ⟨w4.heap.size, 0, none⟩) 1 1, rfl, ?_, ?_, ?_, ?_, ?_, ?_⟩
   ·exact spec_l1Rd_decl.row (xs := spec_l1Rd_decl.names [120, 121, 105, 110, 107]) (spec_l1Rd_decl.blk_far2 (spec_l1Rd_decl.far1 B4.out (spec_l1Rd_decl.blk_ne B4.out.1 B3s.out.1 (by decide)) 2 _) (spec_l1Rd_decl.blk_ne B4.out.1 B2.out.1 (by decide)) _ _ _) rfl rfl (by have := HN.out; omega) (by decide) (fun e_ => spec_l1Rd_decl.blk_sz B4.out.1 B9.out.1 (by decide) (Option.some.inj e_))
   ·exact spec_l1Rd_decl.row (xs := spec_l1Rd_decl.names [98, 99, 102]) (spec_l1Rd_decl.blk_far2 (spec_l1Rd_decl.far1 B9.out (spec_l1Rd_decl.blk_ne B9.out.1 B3s.out.1 (by decide)) 2 _) (spec_l1Rd_decl.blk_ne B9.out.1 B2.out.1 (by decide)) _ _ _) rfl rfl (by have := HN.out; omega) (by decide) (fun e_ => spec_l1Rd_decl.blk_sz B9.out.1 B4.out.1 (by decide) (Option.some.inj e_))
   ·rw [← HAR.out]; exact spec_l1Rd_decl.row1 (x := ⟨⟨#[97]⟩, y1⟩) (spec_l1Rd_decl.blk_far2 (spec_l1Rd_decl.far1 BA.out (spec_l1Rd_decl.blk_ne BA.out.1 B3s.out.1 (by decide)) 2 _) (spec_l1Rd_decl.blk_ne BA.out.1 B2.out.1 (by decide)) _ _ _)
   ·exact spec_l1Rd_decl.is_set (IsS163.far HI_2.out (Nat.ne_of_lt (Nat.lt_of_lt_of_le HGL.out B3s.out.2)) _) (Nat.ne_of_lt (Nat.lt_of_lt_of_le HGL.out B2.out.2)) _ _ _
   ·exact below_set (below_set (below_set (below_set HB.out (Nat.le_trans HWL.out B3s.out.2)) (Nat.le_trans HWL.out B2.out.2)) (Nat.le_trans HWL.out B2.out.2)) (Nat.le_trans HWL.out B2.out.2)
   ·exact keep_far (keep_far (keep_far (keep_far HK.out B3s.out.2 _) B2.out.2 _) B2.out.2 _) B2.out.2 _
 | true =>
  have H3 := A3.out
  clear A3
  rw [if_pos rfl] at H3
  replace H3 := Option.bind_eq_some_iff.mp H3
  cases m1 with
  | false =>
   have H5 := A5.out
   clear A5
   rw [if_neg (by decide)] at H5
   simp only [Option.some.injEq, Prod.mk.injEq] at H5
   obtain ⟨rfl, rfl⟩ := H5
   go_wp2_with fail
   refine (spec_l1Rd_once.calls g s0_0 b2 3 true c2 w0 _ HI_2.out HB.out A2.out).mono ?_
   rintro e w2 ⟨rfl, hI2, hB2, hK2⟩
   have B2_ := Aside0.mk (spec_l1Rd_decl.blk_call hK2 HGL.out B2.out)
   have B4_ := Aside0.mk (spec_l1Rd_decl.blk_call hK2 HGL.out B4.out)
   have HK_ := Aside0.mk (KeepBut.trans HK.out hK2 (.inl rfl))
   replace B3s := Aside0.mk (spec_l1Rd_decl.blk_call hK2 HGL.out B3s.out)
   replace B2 := B2_
   replace B4 := B4_
   replace HK := HK_
   replace HI_2 := Aside0.mk hI2
   replace HB := Aside0.mk hB2
   clear hI2 hB2 hK2 HK_ B2_ B4_
   obtain ⟨⟨d1_, d2_⟩, hD_, H3_⟩ := H3
   simp only [Option.some.injEq, Prod.mk.injEq] at H3_
   obtain ⟨hfl, rfl, rfl⟩ := H3_
   obtain ⟨nd, hnd⟩ : ∃ n : Nat, (n : Int) = d1_ := ⟨d1_.toNat, by have := HD.out; omega⟩
   subst hnd
   rw [Int.toNat_natCast] at hfl
   have HFL := Aside0.mk hfl
   clear hfl
   have HND := Aside0.mk (show nd ≤ 3 by have := HD.out; omega)
   have A3d := Aside0.mk hD_
   clear hD_
   have hcutd : ∀ A : Option Addr, ∀ W : World, (Instr.slice 22 (.slice A 3 3) none (some (.int .i64 (nd : Int))) none).run Tryd.prog W = .ok (.slice A nd 3) W := fun A => cut_to (P := Tryd.prog) 22 9 .i64 Tryd.underlying22 hi0.out A 3 3 (nd : Int) (by omega) (by have := HND.out; omega) (by decide)
   go_wp2_with fail
   have B17_ := Aside0.mk (show (w2.alloc (.cells #[.string ⟨#[98]⟩, .string ⟨#[99]⟩, .string ⟨#[102]⟩] 9)).heap[w2.heap.size]? = some (.cells #[.string ⟨#[98]⟩, .string ⟨#[99]⟩, .string ⟨#[102]⟩] 9 (0, 0)) ∧ w.heap.size ≤ w2.heap.size from ⟨blk_new _ _, keep_size HK.out⟩)
   generalize hg_ : w2.heap.size = g17 at B17_ ⊢
   refine (spec_l1Rd_below.calls g s0_0 c2 4 (nd : Int) d2_ w0 _ (IsS163.alloc HI_2.out _) (below_alloc HB.out _) A3d.out).mono ?_
   rintro e w3 ⟨rfl, hI2, hB2, hK2⟩
   have B2_ := Aside0.mk (spec_l1Rd_decl.blk_call hK2 HGL.out (spec_l1Rd_decl.blk_al B2.out _))
   have B4_ := Aside0.mk (spec_l1Rd_decl.blk_call hK2 HGL.out (spec_l1Rd_decl.blk_al B4.out _))
   have HK_ := Aside0.mk (KeepBut.trans (keep_alloc HK.out _) hK2 (.inl rfl))
   replace B3s := Aside0.mk (spec_l1Rd_decl.blk_call hK2 HGL.out (spec_l1Rd_decl.blk_al B3s.out _))
   replace B2 := B2_
   replace B4 := B4_
   replace HK := HK_
   have B17 := Aside0.mk (spec_l1Rd_decl.blk_call hK2 HGL.out B17_.out)
   clear hg_ B17_
   replace HI_2 := Aside0.mk hI2
   replace HB := Aside0.mk hB2
   clear hI2 hB2 hK2 HK_ B2_ B4_
   have hc1 : w3.cell? ⟨g3_, 1, none⟩ = some (.slice (some ⟨g9_, 0, none⟩) n8 3) := (blk_cell B3s.out.1 1).trans rfl
   have hfz1 := blk_frozen B3s.out.1 1
   go_wp2_with fail
   refine (spec_l1Rd_once.calls g s0_0 d2_ 2 false m2 w0 _ (IsS163.far HI_2.out (Nat.ne_of_lt (Nat.lt_of_lt_of_le HGL.out B3s.out.2)) _) (below_set HB.out (Nat.le_trans HWL.out B3s.out.2)) A4.out).mono ?_
   rintro e w4 ⟨rfl, hI2, hB2, hK2⟩
   have B2_ := Aside0.mk (spec_l1Rd_decl.blk_call hK2 HGL.out (spec_l1Rd_decl.far1 B2.out N32.out.symm 1 _))
   have B4_ := Aside0.mk (spec_l1Rd_decl.blk_call hK2 HGL.out (spec_l1Rd_decl.far1 B4.out (spec_l1Rd_decl.blk_ne B4.out.1 B3s.out.1 (by decide)) 1 _))
   have B17_ := Aside0.mk (spec_l1Rd_decl.blk_call hK2 HGL.out (spec_l1Rd_decl.far1 B17.out (spec_l1Rd_decl.blk_ne B17.out.1 B3s.out.1 (by decide)) 1 _))
   have HK_ := Aside0.mk (KeepBut.trans (keep_far HK.out B3s.out.2 _) hK2 (.inl rfl))
   replace B3s := Aside0.mk (spec_l1Rd_decl.blk_call hK2 HGL.out (spec_l1Rd_decl.put1 B3s.out 1 _ _ rfl))
   replace B2 := B2_
   replace B4 := B4_
   replace B17 := B17_
   replace HK := HK_
   replace HI_2 := Aside0.mk hI2
   replace HB := Aside0.mk hB2
   clear hI2 hB2 hK2 HK_ B2_ B4_ B17_
   clear hc1 hfz1 hcutd
   have hl0 : w4.cell? ⟨g3_, 0, none⟩ = some (.slice (some ⟨g4_, 0, none⟩) n3 5) := (blk_cell B3s.out.1 0).trans rfl
   have hl1 : w4.cell? ⟨g3_, 1, none⟩ = some (.slice (some ⟨g17, 0, none⟩) nd 3) := (blk_cell B3s.out.1 1).trans rfl
   have hl2 : w4.cell? ⟨g3_, 2, none⟩ = some (.slice none 0 0) := (blk_cell B3s.out.1 2).trans rfl
   have hk0 : w4.cell? ⟨gb2, 0, none⟩ = some (.slice none 0 0) := (blk_cell B2.out.1 0).trans rfl
   have hk1 : w4.cell? ⟨gb2, 1, none⟩ = some (.slice none 0 0) := (blk_cell B2.out.1 1).trans rfl
   have hk2 : w4.cell? ⟨gb2, 2, none⟩ = some (.slice none 0 0) := (blk_cell B2.out.1 2).trans rfl
   have hf0 := blk_frozen B2.out.1 0
   have hf1 := blk_frozen B2.out.1 1
   have hf2 := blk_frozen B2.out.1 2
   go_wp2
   refine bodyPost_ret (results_cell_row rfl _ _ gb2 30 #[.slice (some ⟨g4_, 0, none⟩) n3 5, .slice (some ⟨g17, 0, none⟩) nd 3, .slice none 0 0] (0, 0) _ rfl (blk_put (blk_put (blk_put B2.out.1 0 _ rfl) 1 _ rfl) 2 _ rfl) Tryd.underlying30 rfl (by kernel_rfl)) rfl ?_
   refine ⟨.slice (some ⟨g4_, 0, none⟩) n3 5, .slice (some ⟨g17, 0, none⟩) nd 3, .slice none 0 0, rfl, ?_, ?_, ?_, ?_, ?_, ?_⟩
   ·exact spec_l1Rd_decl.row (xs := spec_l1Rd_decl.names [120, 121, 105, 110, 107]) (spec_l1Rd_decl.blk_far2 B4.out (spec_l1Rd_decl.blk_ne B4.out.1 B2.out.1 (by decide)) _ _ _) rfl rfl (by have := HN.out; omega) (by decide) (fun e_ => spec_l1Rd_decl.blk_sz B4.out.1 B17.out.1 (by decide) (Option.some.inj e_))
   ·rw [← HFL.out]; exact spec_l1Rd_decl.row (xs := spec_l1Rd_decl.names [98, 99, 102]) (spec_l1Rd_decl.blk_far2 B17.out (spec_l1Rd_decl.blk_ne B17.out.1 B2.out.1 (by decide)) _ _ _) rfl rfl (by have := HND.out; omega) (by decide) (fun e_ => spec_l1Rd_decl.blk_sz B17.out.1 B4.out.1 (by decide) (Option.some.inj e_))
   ·exact Kd.R_nil _ _ _ _ _
   ·exact spec_l1Rd_decl.is_set HI_2.out (Nat.ne_of_lt (Nat.lt_of_lt_of_le HGL.out B2.out.2)) _ _ _
   ·exact below_set (below_set (below_set HB.out (Nat.le_trans HWL.out B2.out.2)) (Nat.le_trans HWL.out B2.out.2)) (Nat.le_trans HWL.out B2.out.2)
   ·exact keep_far (keep_far (keep_far HK.out B2.out.2 _) B2.out.2 _) B2.out.2 _
  | true =>
   have H5 := A5.out
   clear A5
   rw [if_pos rfl] at H5
   replace H5 := Option.bind_eq_some_iff.mp H5
   go_wp2_with fail
   refine (spec_l1Rd_once.calls g s0_0 b2 3 true c2 w0 _ HI_2.out HB.out A2.out).mono ?_
   rintro e w2 ⟨rfl, hI2, hB2, hK2⟩
   have B2_ := Aside0.mk (spec_l1Rd_decl.blk_call hK2 HGL.out B2.out)
   have B4_ := Aside0.mk (spec_l1Rd_decl.blk_call hK2 HGL.out B4.out)
   have HK_ := Aside0.mk (KeepBut.trans HK.out hK2 (.inl rfl))
   replace B3s := Aside0.mk (spec_l1Rd_decl.blk_call hK2 HGL.out B3s.out)
   replace B2 := B2_
   replace B4 := B4_
   replace HK := HK_
   replace HI_2 := Aside0.mk hI2
   replace HB := Aside0.mk hB2
   clear hI2 hB2 hK2 HK_ B2_ B4_
   obtain ⟨⟨d1_, d2_⟩, hD_, H3_⟩ := H3
   simp only [Option.some.injEq, Prod.mk.injEq] at H3_
   obtain ⟨hfl, rfl, rfl⟩ := H3_
   obtain ⟨nd, hnd⟩ : ∃ n : Nat, (n : Int) = d1_ := ⟨d1_.toNat, by have := HD.out; omega⟩
   subst hnd
   rw [Int.toNat_natCast] at hfl
   have HFL := Aside0.mk hfl
   clear hfl
   have HND := Aside0.mk (show nd ≤ 3 by have := HD.out; omega)
   have A3d := Aside0.mk hD_
   clear hD_
   have hcutd : ∀ A : Option Addr, ∀ W : World, (Instr.slice 22 (.slice A 3 3) none (some (.int .i64 (nd : Int))) none).run Tryd.prog W = .ok (.slice A nd 3) W := fun A => cut_to (P := Tryd.prog) 22 9 .i64 Tryd.underlying22 hi0.out A 3 3 (nd : Int) (by omega) (by have := HND.out; omega) (by decide)
   go_wp2_with fail
   have B17_ := Aside0.mk (show (w2.alloc (.cells #[.string ⟨#[98]⟩, .string ⟨#[99]⟩, .string ⟨#[102]⟩] 9)).heap[w2.heap.size]? = some (.cells #[.string ⟨#[98]⟩, .string ⟨#[99]⟩, .string ⟨#[102]⟩] 9 (0, 0)) ∧ w.heap.size ≤ w2.heap.size from ⟨blk_new _ _, keep_size HK.out⟩)
   generalize hg_ : w2.heap.size = g17 at B17_ ⊢
   refine (spec_l1Rd_below.calls g s0_0 c2 4 (nd : Int) d2_ w0 _ (IsS163.alloc HI_2.out _) (below_alloc HB.out _) A3d.out).mono ?_
   rintro e w3 ⟨rfl, hI2, hB2, hK2⟩
   have B2_ := Aside0.mk (spec_l1Rd_decl.blk_call hK2 HGL.out (spec_l1Rd_decl.blk_al B2.out _))
   have B4_ := Aside0.mk (spec_l1Rd_decl.blk_call hK2 HGL.out (spec_l1Rd_decl.blk_al B4.out _))
   have HK_ := Aside0.mk (KeepBut.trans (keep_alloc HK.out _) hK2 (.inl rfl))
   replace B3s := Aside0.mk (spec_l1Rd_decl.blk_call hK2 HGL.out (spec_l1Rd_decl.blk_al B3s.out _))
   replace B2 := B2_
   replace B4 := B4_
   replace HK := HK_
   have B17 := Aside0.mk (spec_l1Rd_decl.blk_call hK2 HGL.out B17_.out)
   clear hg_ B17_
   replace HI_2 := Aside0.mk hI2
   replace HB := Aside0.mk hB2
   clear hI2 hB2 hK2 HK_ B2_ B4_
   have hc1 : w3.cell? ⟨g3_, 1, none⟩ = some (.slice (some ⟨g9_, 0, none⟩) n8 3) := (blk_cell B3s.out.1 1).trans rfl
   have hfz1 := blk_frozen B3s.out.1 1
   go_wp2_with fail
   refine (spec_l1Rd_once.calls g s0_0 d2_ 2 true m2 w0 _ (IsS163.far HI_2.out (Nat.ne_of_lt (Nat.lt_of_lt_of_le HGL.out B3s.out.2)) _) (below_set HB.out (Nat.le_trans HWL.out B3s.out.2)) A4.out).mono ?_
   rintro e w4 ⟨rfl, hI2, hB2, hK2⟩
   have B2_ := Aside0.mk (spec_l1Rd_decl.blk_call hK2 HGL.out (spec_l1Rd_decl.far1 B2.out N32.out.symm 1 _))
   have B4_ := Aside0.mk (spec_l1Rd_decl.blk_call hK2 HGL.out (spec_l1Rd_decl.far1 B4.out (spec_l1Rd_decl.blk_ne B4.out.1 B3s.out.1 (by decide)) 1 _))
   have B17_ := Aside0.mk (spec_l1Rd_decl.blk_call hK2 HGL.out (spec_l1Rd_decl.far1 B17.out (spec_l1Rd_decl.blk_ne B17.out.1 B3s.out.1 (by decide)) 1 _))
   have HK_ := Aside0.mk (KeepBut.trans (keep_far HK.out B3s.out.2 _) hK2 (.inl rfl))
   replace B3s := Aside0.mk (spec_l1Rd_decl.blk_call hK2 HGL.out (spec_l1Rd_decl.put1 B3s.out 1 _ _ rfl))
   replace B2 := B2_
   replace B4 := B4_
   replace B17 := B17_
   replace HK := HK_
   replace HI_2 := Aside0.mk hI2
   replace HB := Aside0.mk hB2
   clear hI2 hB2 hK2 HK_ B2_ B4_ B17_
   clear hc1 hfz1 hcutd
   obtain ⟨⟨z1_, z2_⟩, hZ_, H5_⟩ := H5
   simp only [Option.some.injEq, Prod.mk.injEq] at H5_
   obtain ⟨har, rfl⟩ := H5_
   have A5z := Aside0.mk hZ_
   clear hZ_
   obtain ⟨y1, hy1⟩ : ∃ y_ : Int, y_ = wrap64 (1 + z1_) := ⟨_, rfl⟩
   rw [← hy1] at har
   have HAR := Aside0.mk har
   clear har
   have hy2 := (i64_w (1 + z1_)).trans hy1.symm
   clear hy1
   go_wp2_with fail
   refine (spec_l1Rd_below.calls g s0_0 m2 6 z1_ z2_ w0 _ HI_2.out HB.out A5z.out).mono ?_
   rintro e w5 ⟨rfl, hI2, hB2, hK2⟩
   have B2_ := Aside0.mk (spec_l1Rd_decl.blk_call hK2 HGL.out B2.out)
   have B4_ := Aside0.mk (spec_l1Rd_decl.blk_call hK2 HGL.out B4.out)
   have B17_ := Aside0.mk (spec_l1Rd_decl.blk_call hK2 HGL.out B17.out)
   have HK_ := Aside0.mk (KeepBut.trans HK.out hK2 (.inl rfl))
   replace B3s := Aside0.mk (spec_l1Rd_decl.blk_call hK2 HGL.out B3s.out)
   replace B2 := B2_
   replace B4 := B4_
   replace B17 := B17_
   replace HK := HK_
   replace HI_2 := Aside0.mk hI2
   replace HB := Aside0.mk hB2
   clear hI2 hB2 hK2 HK_ B2_ B4_ B17_
   have BA := Aside0.mk (show (w5.alloc (.cells #[.string ⟨#[97]⟩, .int .i64 y1] 91)).heap[w5.heap.size]? = some (.cells #[.string ⟨#[97]⟩, .int .i64 y1] 91 (0, 0)) ∧ w.heap.size ≤ w5.heap.size from ⟨blk_new _ _, keep_size HK.out⟩)
   replace B2 := Aside0.mk (spec_l1Rd_decl.blk_al B2.out (.cells #[.string ⟨#[97]⟩, .int .i64 y1] 91))
   replace B3s := Aside0.mk (spec_l1Rd_decl.blk_al B3s.out (.cells #[.string ⟨#[97]⟩, .int .i64 y1] 91))
   replace B4 := Aside0.mk (spec_l1Rd_decl.blk_al B4.out (.cells #[.string ⟨#[97]⟩, .int .i64 y1] 91))
   replace B17 := Aside0.mk (spec_l1Rd_decl.blk_al B17.out (.cells #[.string ⟨#[97]⟩, .int .i64 y1] 91))
   replace HI_2 := Aside0.mk (IsS163.alloc HI_2.out (.cells #[.string ⟨#[97]⟩, .int .i64 y1] 91))
   replace HB := Aside0.mk (below_alloc HB.out (.cells #[.string ⟨#[97]⟩, .int .i64 y1] 91))
   replace HK := Aside0.mk (keep_alloc HK.out (.cells #[.string ⟨#[97]⟩, .int .i64 y1] 91))
   have hs2 : (w5.alloc (.cells #[.string ⟨#[97]⟩, .int .i64 y1] 91)).cell? ⟨g3_, 2, none⟩ = some (.slice none 0 0) := (blk_cell B3s.out.1 2).trans rfl
   have hfs := blk_frozen B3s.out.1 2
   have BP := Aside0.mk (spec_l1Rd_decl.put1 B3s.out 2 (.slice (some ⟨w5.heap.size, 0, none⟩) 1 1) #[.slice (some ⟨g4_, 0, none⟩) n3 5, .slice (some ⟨g17, 0, none⟩) nd 3, .slice (some ⟨w5.heap.size, 0, none⟩) 1 1] rfl)
   have BQ := Aside0.mk (spec_l1Rd_decl.far1 B2.out N32.out.symm 2 (.slice (some ⟨w5.heap.size, 0, none⟩) 1 1))
   have hl0 : ((w5.alloc (.cells #[.string ⟨#[97]⟩, .int .i64 y1] 91)).setCell ⟨g3_, 2, none⟩ (.slice (some ⟨w5.heap.size, 0, none⟩) 1 1)).cell? ⟨g3_, 0, none⟩ = some (.slice (some ⟨g4_, 0, none⟩) n3 5) := (blk_cell BP.out.1 0).trans rfl
   have hl1 : ((w5.alloc (.cells #[.string ⟨#[97]⟩, .int .i64 y1] 91)).setCell ⟨g3_, 2, none⟩ (.slice (some ⟨w5.heap.size, 0, none⟩) 1 1)).cell? ⟨g3_, 1, none⟩ = some (.slice (some ⟨g17, 0, none⟩) nd 3) := (blk_cell BP.out.1 1).trans rfl
   have hl2 : ((w5.alloc (.cells #[.string ⟨#[97]⟩, .int .i64 y1] 91)).setCell ⟨g3_, 2, none⟩ (.slice (some ⟨w5.heap.size, 0, none⟩) 1 1)).cell? ⟨g3_, 2, none⟩ = some (.slice (some ⟨w5.heap.size, 0, none⟩) 1 1) := (blk_cell BP.out.1 2).trans rfl
   have hk0 : ((w5.alloc (.cells #[.string ⟨#[97]⟩, .int .i64 y1] 91)).setCell ⟨g3_, 2, none⟩ (.slice (some ⟨w5.heap.size, 0, none⟩) 1 1)).cell? ⟨gb2, 0, none⟩ = some (.slice none 0 0) := (blk_cell BQ.out.1 0).trans rfl
   have hk1 : ((w5.alloc (.cells #[.string ⟨#[97]⟩, .int .i64 y1] 91)).setCell ⟨g3_, 2, none⟩ (.slice (some ⟨w5.heap.size, 0, none⟩) 1 1)).cell? ⟨gb2, 1, none⟩ = some (.slice none 0 0) := (blk_cell BQ.out.1 1).trans rfl
   have hk2 : ((w5.alloc (.cells #[.string ⟨#[97]⟩, .int .i64 y1] 91)).setCell ⟨g3_, 2, none⟩ (.slice (some ⟨w5.heap.size, 0, none⟩) 1 1)).cell? ⟨gb2, 2, none⟩ = some (.slice none 0 0) := (blk_cell BQ.out.1 2).trans rfl
   have hf0 := blk_frozen BQ.out.1 0
   have hf1 := blk_frozen BQ.out.1 1
   have hf2 := blk_frozen BQ.out.1 2
   go_wp2
   refine bodyPost_ret (results_cell_row rfl _ _ gb2 30 #[.slice (some ⟨g4_, 0, none⟩) n3 5, .slice (some ⟨g17, 0, none⟩) nd 3, .slice (some ⟨w5.heap.size, 0, none⟩) 1 1] (0, 0) _ rfl (blk_put (blk_put (blk_put BQ.out.1 0 _ rfl) 1 _ rfl) 2 _ rfl) Tryd.underlying30 rfl (by kernel_rfl)) rfl ?_
   refine ⟨.slice (some ⟨g4_, 0, none⟩) n3 5, .slice (some ⟨g17, 0, none⟩) nd 3, .slice (some ⟨w5.heap.size, 0, none⟩) 1 1, rfl, ?_, ?_, ?_, ?_, ?_, ?_⟩
   ·exact spec_l1Rd_decl.row (xs := spec_l1Rd_decl.names [120, 121, 105, 110, 107]) (spec_l1Rd_decl.blk_far2 (spec_l1Rd_decl.far1 B4.out (spec_l1Rd_decl.blk_ne B4.out.1 B3s.out.1 (by decide)) 2 _) (spec_l1Rd_decl.blk_ne B4.out.1 B2.out.1 (by decide)) _ _ _) rfl rfl (by have := HN.out; omega) (by decide) (fun e_ => spec_l1Rd_decl.blk_sz B4.out.1 B17.out.1 (by decide) (Option.some.inj e_))
   ·rw [← HFL.out]; exact spec_l1Rd_decl.row (xs := spec_l1Rd_decl.names [98, 99, 102]) (spec_l1Rd_decl.blk_far2 (spec_l1Rd_decl.far1 B17.out (spec_l1Rd_decl.blk_ne B17.out.1 B3s.out.1 (by decide)) 2 _) (spec_l1Rd_decl.blk_ne B17.out.1 B2.out.1 (by decide)) _ _ _) rfl rfl (by have := HND.out; omega) (by decide) (fun e_ => spec_l1Rd_decl.blk_sz B17.out.1 B4.out.1 (by decide) (Option.some.inj e_))
   ·rw [← HAR.out]; exact spec_l1Rd_decl.row1 (x := ⟨⟨#[97]⟩, y1⟩) (spec_l1Rd_decl.blk_far2 (spec_l1Rd_decl.far1 BA.out (spec_l1Rd_decl.blk_ne BA.out.1 B3s.out.1 (by decide)) 2 _) (spec_l1Rd_decl.blk_ne BA.out.1 B2.out.1 (by decide)) _ _ _)
   ·exact spec_l1Rd_decl.is_set (IsS163.far HI_2.out (Nat.ne_of_lt (Nat.lt_of_lt_of_le HGL.out B3s.out.2)) _) (Nat.ne_of_lt (Nat.lt_of_lt_of_le HGL.out B2.out.2)) _ _ _
   ·exact below_set (below_set (below_set (below_set HB.out (Nat.le_trans HWL.out B3s.out.2)) (Nat.le_trans HWL.out B2.out.2)) (Nat.le_trans HWL.out B2.out.2)) (Nat.le_trans HWL.out B2.out.2)
   ·exact keep_far (keep_far (keep_far (keep_far HK.out B3s.out.2 _) B2.out.2 _) B2.out.2 _) B2.out.2 _

end Go.Proofs.YtcomagipdbdglaaDoor.Q
