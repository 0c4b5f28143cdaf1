-- Contracts of the program's functions, each with the plain function that it computes.
import Derived.Test.YtdjhalelgknnkaaQx0
import Derived.Test.YtdjhalelgknnkaaQx2
import Derived.Test.YtdjhalelgknnkaaQx4
import Derived.Test.YtdjhalelgknnkaaQx6
import Derived.Test.YtdjhalelgknnkaaQx7
namespace Go.Proofs.Ytdjhalelgknnkaa.Q
open Go.RowKit Go.Proofs.YtdjhalelgknnkaaW.PrintWords Go.Proofs.YtdjhalelgknnkaaW.PrintLast Go.Proofs.YtdjhalelgknnkaaW.PrintMore
attribute [local go_sem] max2_int min2_int max_two min_two max_three min_three max_four min_four   -- for this text's walks alone
set_option linter.unusedVariables false
set_option linter.unusedSimpArgs false

/-! ### spec_DrawNumAdd: function 28 -/
def spec_DrawNumAdd.f (k : Nat) (l0 : List Int) : Option (Int × Int) := (spec_l1Open.f l0).bind fun bt129 => ((spec_l1Rd_num.f k bt129.1 bt129.2).bind fun bt132 => ((spec_l1Rd_once.f bt129.1 bt132.2 4).bind fun bt134 => (if bt134.1 = true then ((some (([wrap64 (9223372036854775807 - bt132.1), wrap64 ((-9223372036854775808) - bt132.1), wrap64 (-bt132.1), wrap64 ((wrap64 (9223372036854775807 - bt132.1)) + 1)] : List Int) : List Int)).bind fun y136 => ((spec_l1Rd_below.f bt129.1 bt134.2 4).bind fun bt139 => (if 0 ≤ bt139.1 then (if bt139.1 < (y136.length : Int) then (some (bt132.1, rd y136 bt139.1)) else (none)) else (none)))) else ((spec_l1Rd_num.f k bt129.1 bt134.2).bind fun bt142 => (some (bt132.1, bt142.1))))))
theorem spec_DrawNumAdd.mono : ∀ a0 k, LeO (spec_DrawNumAdd.f k a0) (spec_DrawNumAdd.f (k + 1) a0) := by
 intro a0 k
 unfold spec_DrawNumAdd.f
 repeat' first
   | (with_reducible exact spec_l1Rd_num.mono _ _ _)
   | (with_reducible exact LeO.refl _)
   | (with_reducible exact LeO.none _)
   | (with_reducible refine LeO.ite ?_ ?_)
   | (with_reducible refine LeO.bind ?_ (fun _ => ?_))
   | exact spec_l1Rd_num.mono _ _ _
   | exact LeO.none _
   | refine LeO.ite ?_ ?_
   | refine LeO.bind ?_ (fun _ => ?_)
def spec_DrawNumAdd.T4 : Bool × List (List Nat × List Nat) := (true, [([], []), ([], []), ([1], [1]), ([], []), ([3], [3]), ([], []), ([5], [5]), ([], []), ([7], [7]), ([8], [8]), ([2, 4, 6, 9], [2, 4, 6, 9]), ([], []), ([11], [11]), ([10, 12], [10, 12]), ([13], [13]), ([0, 12, 0], [0]), ([14, 15, 0, 1, 2, 3, 4, 5, 6, 7, 8, 9, 10, 11, 12, 13, 14, 15], [14])])
def spec_DrawNumAdd.B4 : List Nat := [0, 0, 2, 0, 8, 0, 32, 0, 128, 384, 1022, 0, 2048, 8190, 16382, 6145, 65535]
theorem spec_DrawNumAdd.tab4 : rtab .any (opsOf Try.f28 4) = spec_DrawNumAdd.T4 := by kernel_rfl
theorem spec_DrawNumAdd.bits4 : waitsOk spec_DrawNumAdd.T4.2 spec_DrawNumAdd.B4 = true := by kernel_rfl
set_option maxHeartbeats 8000000 in
set_option maxRecDepth 100000 in
theorem spec_DrawNumAdd.calls (k : Nat) (A0 : Option Addr) (c0 : Nat) (l0 : List Int) (r1 : Int) (r2 : Int) (w : World) (hr0 : Kd.C (Kd.int .u8) w A0 l0.length l0) (hc0 : l0.length ≤ c0) (h : spec_DrawNumAdd.f k l0 = some (r1, r2)) :
  Calls Try.prog 28 #[.slice A0 l0.length c0] w fun e w' => e = .returned (.tuple #[.int .i64 r1, .int .i64 r2]) ∧ Below w.heap.size w w' := by
 have HR0 := Aside0.mk hr0
 have HC0 := Aside0.mk hc0
 clear hr0 hc0
 have HB := Aside0.mk (Below.refl w.heap.size w)
 have H : ((spec_l1Open.f l0).bind fun bt129 => ((spec_l1Rd_num.f k bt129.1 bt129.2).bind fun bt132 => ((spec_l1Rd_once.f bt129.1 bt132.2 4).bind fun bt134 => (if bt134.1 = true then ((some (([wrap64 (9223372036854775807 - bt132.1), wrap64 ((-9223372036854775808) - bt132.1), wrap64 (-bt132.1), wrap64 ((wrap64 (9223372036854775807 - bt132.1)) + 1)] : List Int) : List Int)).bind fun y136 => ((spec_l1Rd_below.f bt129.1 bt134.2 4).bind fun bt139 => (if 0 ≤ bt139.1 then (if bt139.1 < (y136.length : Int) then (some (bt132.1, rd y136 bt139.1)) else (none)) else (none)))) else ((spec_l1Rd_num.f k bt129.1 bt134.2).bind fun bt142 => (some (bt132.1, bt142.1))))))) = some (r1, r2) := h
 clear h
 replace H := Option.bind_eq_some_iff.mp H
 obtain ⟨⟨t129, t130⟩, A20, H⟩ := H
 replace H : ((spec_l1Rd_num.f k t129 t130).bind fun bt132 => ((spec_l1Rd_once.f t129 bt132.2 4).bind fun bt134 => (if bt134.1 = true then ((some (([wrap64 (9223372036854775807 - bt132.1), wrap64 ((-9223372036854775808) - bt132.1), wrap64 (-bt132.1), wrap64 ((wrap64 (9223372036854775807 - bt132.1)) + 1)] : List Int) : List Int)).bind fun y136 => ((spec_l1Rd_below.f t129 bt134.2 4).bind fun bt139 => (if 0 ≤ bt139.1 then (if bt139.1 < (y136.length : Int) then (some (bt132.1, rd y136 bt139.1)) else (none)) else (none)))) else ((spec_l1Rd_num.f k t129 bt134.2).bind fun bt142 => (some (bt132.1, bt142.1)))))) = some (r1, r2) := H
 have A2 := Aside0.mk A20
 clear A20
 replace H := Option.bind_eq_some_iff.mp H
 obtain ⟨⟨t132, t133⟩, A30, H⟩ := H
 replace H : ((spec_l1Rd_once.f t129 t133 4).bind fun bt134 => (if bt134.1 = true then ((some (([wrap64 (9223372036854775807 - t132), wrap64 ((-9223372036854775808) - t132), wrap64 (-t132), wrap64 ((wrap64 (9223372036854775807 - t132)) + 1)] : List Int) : List Int)).bind fun y136 => ((spec_l1Rd_below.f t129 bt134.2 4).bind fun bt139 => (if 0 ≤ bt139.1 then (if bt139.1 < (y136.length : Int) then (some (t132, rd y136 bt139.1)) else (none)) else (none)))) else ((spec_l1Rd_num.f k t129 bt134.2).bind fun bt142 => (some (t132, bt142.1))))) = some (r1, r2) := H
 have A3 := Aside0.mk A30
 clear A30
 replace H := Option.bind_eq_some_iff.mp H
 obtain ⟨⟨t134, t135⟩, A40, H⟩ := H
 replace H : (if t134 = true then ((some (([wrap64 (9223372036854775807 - t132), wrap64 ((-9223372036854775808) - t132), wrap64 (-t132), wrap64 ((wrap64 (9223372036854775807 - t132)) + 1)] : List Int) : List Int)).bind fun y136 => ((spec_l1Rd_below.f t129 t135 4).bind fun bt139 => (if 0 ≤ bt139.1 then (if bt139.1 < (y136.length : Int) then (some (t132, rd y136 bt139.1)) else (none)) else (none)))) else ((spec_l1Rd_num.f k t129 t135).bind fun bt142 => (some (t132, bt142.1)))) = some (r1, r2) := H
 have A4 := Aside0.mk A40
 clear A40
 by_cases c5 : t134 = true
 ·subst c5
  have H1 : ((some (([wrap64 (9223372036854775807 - t132), wrap64 ((-9223372036854775808) - t132), wrap64 (-t132), wrap64 ((wrap64 (9223372036854775807 - t132)) + 1)] : List Int) : List Int)).bind fun y136 => ((spec_l1Rd_below.f t129 t135 4).bind fun bt139 => (if 0 ≤ bt139.1 then (if bt139.1 < (y136.length : Int) then (some (t132, rd y136 bt139.1)) else (none)) else (none)))) = some (r1, r2) := by rw [if_pos rfl] at H; exact H
  clear H
  have H := H1
  clear H1
  obtain ⟨y136, hy136⟩ : ∃ y_ : List Int, y_ = (([wrap64 (9223372036854775807 - t132), wrap64 ((-9223372036854775808) - t132), wrap64 (-t132), wrap64 ((wrap64 (9223372036854775807 - t132)) + 1)] : List Int)) := ⟨_, rfl⟩
  replace H : ((spec_l1Rd_below.f t129 t135 4).bind fun bt139 => (if 0 ≤ bt139.1 then (if bt139.1 < (y136.length : Int) then (some (t132, rd y136 bt139.1)) else (none)) else (none))) = some (r1, r2) := by first | (rw [hy136]; with_reducible exact H) | (have H2_ := (Option.bind_some _ _).symm.trans H; rw [hy136]; with_reducible exact H2_) | (have H2_ := (Option.bind_some _ _).symm.trans H; with_reducible exact H2_) | with_reducible exact H | (rw [hy136]; exact H) | exact H
  have Ny136 := Aside0.mk hy136
  clear hy136
  replace H := Option.bind_eq_some_iff.mp H
  obtain ⟨⟨t139, t140⟩, A60, H⟩ := H
  replace H : (if 0 ≤ t139 then (if t139 < (y136.length : Int) then (some (t132, rd y136 t139)) else (none)) else (none)) = some (r1, r2) := H
  have A6 := Aside0.mk A60
  clear A60
  by_cases c7 : 0 ≤ t139
  ·rw [if_pos c7] at H
   have c7b0 : decide (0 ≤ t139) = true := decide_eq_true c7
   clear c7
   by_cases c8 : t139 < (y136.length : Int)
   ·rw [if_pos c8] at H
    have c8b0 : decide (t139 < (y136.length : Int)) = true := decide_eq_true c8
    clear c8
    simp only [Option.some.injEq, Prod.mk.injEq] at H
    obtain ⟨rfl, rfl⟩ := H
    go_enter Try.func28, Try.ntmps28
    try go_wp2_with (first | ((with_reducible refine gate_callee (f := 42) rfl ?_); refine goesL_ (some 7) rfl rfl Try.func42 (by kernel_rfl) rfl #[.slice A0 l0.length c0] rfl (by (try simp only [List.map_toArray, List.map_cons, List.map_nil]); first | done | rfl | (simp only [List.length_drop, List.length_take]; rfl)) ?_; (with_reducible refine (spec_l1Open.calls _ _ l0 t129 t130 w _ ?side1 ?side2 ?side3 A2.out).mono ?_); (case side1 => repeat (first | (with_reducible first | exact HB.out | apply below_alloc | apply pw_below_drewN | apply below_drew1) | exact HB.out)); (case side2 => exact HR0.out); (case side3 => exact HC0.out); rintro e w9 ⟨g131, rfl, hi, hb, hb2⟩; refine ⟨_, rfl, ?_⟩; have n0_ := Aside0.mk (hb); have n1_ := Aside0.mk (hi); clear HB; have HB := n0_; have HI131 := n1_; clear n0_ n1_; (try clear hb); (try clear hb2); (try clear hk); (try clear hi)) | ((with_reducible refine gate_callee (f := 49) rfl ?_); refine goesL_ (some 9) rfl rfl Try.func49 (by kernel_rfl) rfl #[.pointer (some ⟨g131, 0, none⟩)] rfl (by (try simp only [List.map_toArray, List.map_cons, List.map_nil]); first | done | rfl | (simp only [List.length_drop, List.length_take]; rfl)) ?_; (with_reducible refine (spec_l1Rd_num.calls k g131 t129 t130 t132 t133 w _ ?side1 ?side2 A3.out).mono ?_); (case side1 => repeat (first | (with_reducible first | exact HI131.out | apply IsS74.alloc | apply IsS74.drewN | apply IsS74.drew | apply IsS74.set_1) | exact HI131.out)); (case side2 => repeat (first | (with_reducible first | exact HB.out | apply below_alloc | apply pw_below_drewN | apply below_drew1 | refine below_set ?_ (IsS74.ge HI131.out)) | exact HB.out)); rintro e w10 ⟨rfl, hi, hb, hk⟩; refine ⟨_, rfl, ?_⟩; have n0_ := Aside0.mk (hb); have n1_ := Aside0.mk (hi); clear HB; clear HI131; have HB := n0_; have HI131 := n1_; clear n0_ n1_; (try clear hb); (try clear hb2); (try clear hk); (try clear hi)) | ((with_reducible refine gate_callee (f := 50) rfl ?_); refine goesL_ (some 11) rfl rfl Try.func50 (by kernel_rfl) rfl #[.pointer (some ⟨g131, 0, none⟩), .int .i64 4] rfl (by (try simp only [List.map_toArray, List.map_cons, List.map_nil]); first | done | rfl | (simp only [List.length_drop, List.length_take]; rfl)) ?_; (with_reducible refine (spec_l1Rd_once.calls g131 t129 t133 4 true t135 w _ ?side1 ?side2 A4.out).mono ?_); (case side1 => repeat (first | (with_reducible first | exact HI131.out | apply IsS74.alloc | apply IsS74.drewN | apply IsS74.drew | apply IsS74.set_1) | exact HI131.out)); (case side2 => repeat (first | (with_reducible first | exact HB.out | apply below_alloc | apply pw_below_drewN | apply below_drew1 | refine below_set ?_ (IsS74.ge HI131.out)) | exact HB.out)); rintro e w11 ⟨rfl, hi, hb, hk⟩; refine ⟨_, rfl, ?_⟩; have n0_ := Aside0.mk (hb); have n1_ := Aside0.mk (hi); clear HB; clear HI131; have HB := n0_; have HI131 := n1_; clear n0_ n1_; (try clear hb); (try clear hb2); (try clear hk); (try clear hi)))
    have pi141 : (0 ≤ (t139 : Int)) = True := eq_true (of_decide_eq_true (by first | (with_reducible assumption) | assumption))
    have qi141 : (t139 < (y136.length : Int)) = True := eq_true (of_decide_eq_true (by first | (with_reducible assumption) | assumption))
    have n0_ := Aside0.mk (IsS74.drew HI131.out)
    have n1_ := Aside0.mk (below_drew1 HB.out)
    clear HI131
    clear HB
    have HI131 := n0_
    have HB := n1_
    clear n0_ n1_
    refine start_ (n := 17) (S := fun w' => True) (ds := []) #[false, false, false, false, false, false, false, false, false, false, false, false, false, false, false, false, false] (by kernel_rfl) rfl rfl trivial (fun hHeld => ?_); refine with_tabW spec_DrawNumAdd.tab4 spec_DrawNumAdd.bits4 (fun HT_ HW_ => ?_)
    generalize w11.drew = w12 at HI131 HB hHeld ⊢
    refine pure_ (i := 0) (N := some 12) (v := ?_) (a' := ?_) #[true, false, false, false, false, false, false, false, false, false, false, false, false, false, false, false, false] rfl rfl (any_of HT_.out (by kernel_rfl)) (fun _ _ _ h => h) (Or.inl ⟨by rfl, ?_⟩) ?_ ?_
    rotate_left
    ·intro w'
     go_simp
     with_reducible rfl
    rotate_left
    ·simp only [Act.put, List.setIfInBounds_toArray, List.set_cons_zero, List.set_cons_succ, i64_w, i32_w]
     rfl
    refine pure_ (i := 1) (N := some 13) (v := ?_) (a' := ?_) #[true, true, false, false, false, false, false, false, false, false, false, false, false, false, false, false, false] rfl rfl (any_of HT_.out (by kernel_rfl)) (fun _ _ _ h => h) (Or.inl ⟨by rfl, ?_⟩) ?_ ?_
    rotate_left
    ·intro w'
     go_simp
     with_reducible rfl
    rotate_left
    ·simp only [Act.put, List.setIfInBounds_toArray, List.set_cons_zero, List.set_cons_succ, i64_w, i32_w]
     rfl
    refine pure_ (i := 3) (N := some 15) (v := ?_) (a' := ?_) #[true, true, false, true, false, false, false, false, false, false, false, false, false, false, false, false, false] rfl rfl (any_of HT_.out (by kernel_rfl)) (fun _ _ _ h => h) (Or.inl ⟨by rfl, ?_⟩) ?_ ?_
    rotate_left
    ·intro w'
     go_simp
     with_reducible rfl
    rotate_left
    ·simp only [Act.put, List.setIfInBounds_toArray, List.set_cons_zero, List.set_cons_succ, i64_w, i32_w]
     rfl
    refine pure_ (i := 5) (N := some 17) (v := ?_) (a' := ?_) #[true, true, false, true, false, true, false, false, false, false, false, false, false, false, false, false, false] rfl rfl (any_of HT_.out (by kernel_rfl)) (fun _ _ _ h => h) (Or.inl ⟨by rfl, ?_⟩) ?_ ?_
    rotate_left
    ·intro w'
     go_simp
     with_reducible rfl
    rotate_left
    ·simp only [Act.put, List.setIfInBounds_toArray, List.set_cons_zero, List.set_cons_succ, i64_w, i32_w]
     rfl
    refine pure_ (i := 7) (N := some 19) (v := ?_) (a' := ?_) #[true, true, false, true, false, true, false, true, false, false, false, false, false, false, false, false, false] rfl rfl (any_of HT_.out (by kernel_rfl)) (fun _ _ _ h => h) (Or.inl ⟨by rfl, ?_⟩) ?_ ?_
    rotate_left
    ·intro w'
     go_simp
     with_reducible rfl
    rotate_left
    ·simp only [Act.put, List.setIfInBounds_toArray, List.set_cons_zero, List.set_cons_succ, i64_w, i32_w]
     rfl
    refine pure_ (i := 11) (N := some 23) (v := ?_) (a' := ?_) #[true, true, false, true, false, true, false, true, false, false, false, true, false, false, false, false, false] rfl rfl (any_of HT_.out (by kernel_rfl)) (fun _ _ _ h => h) (Or.inl ⟨by rfl, ?_⟩) ?_ ?_
    rotate_left
    ·intro w'
     go_simp
     with_reducible rfl
    rotate_left
    ·simp only [Act.put, List.setIfInBounds_toArray, List.set_cons_zero, List.set_cons_succ, i64_w, i32_w]
     rfl
    refine inv_at [2, 4, 6, 8, 9, 10, 12, 13, 14, 15, 16] (fun a0_ b a w' => ∃ (v137 : Value) (adz_v137 : Addr) (m13_ : Value), a = putSel a0_ b [(2, 14, .int .i64 (wrap64 (9223372036854775807 - t132))), (4, 16, .int .i64 (wrap64 ((-9223372036854775808) - t132))), (6, 18, .int .i64 (wrap64 (-t132))), (8, 20, .int .i64 (wrap64 (9223372036854775807 - t132))), (9, 21, .int .i64 (wrap64 ((wrap64 (9223372036854775807 - t132)) + 1))), (10, 22, v137), (12, 24, .int .i64 t139), (13, 25, m13_), (14, 26, .int .i64 (rd y136 t139)), (15, 2, .int .i64 t132), (16, 3, .int .i64 (rd y136 t139))] ∧ (b 12 = false → IsS74 w w' g131 t129 t135) ∧ (Below w.heap.size w w') ∧ (b 10 = true → Kd.R (Kd.int .i64) 2 w' w.heap.size (fun _ => True) v137 y136) ∧ (b 10 = true → ∃ c_, (v137 : Value) = .slice (some adz_v137) y136.length c_) ∧ (b 12 = true → IsS74 w w' g131 t129 t140) ∧ (b 13 = true → (m13_ : Value) = .pointer (some (adz_v137.add (t139).toNat)))) HT_.out HW_.out (by kernel_rfl) (by kernel_rfl) ?_ ?_ ?_
    ·exact ⟨.bool false, ⟨0, 0, none⟩, .bool false, by simp only [putSel, Bool.false_eq_true, if_false], fun _ => HI131.out, HB.out, fun h_ => absurd h_ (by decide), fun h_ => absurd h_ (by decide), fun h_ => absurd h_ (by decide), fun h_ => absurd h_ (by decide)⟩
    ·skip
     clear HB HI131
     refine steps_cons ?_ ?_
     ·rintro b a w' ⟨v137, adz_v137, m13_, ha, Q_HI131, Q_HB, Q_HO138, Q_HA_HO138, Q_HI131_e12, Q_X13_⟩ hb_ hon hoff
      refine ⟨_, rfl, fun K hK => ?_⟩
      have e13 : a.tmps[13]? = some (.int .i64 t132) := by rw [ha]; exact (putSel_off rfl).trans rfl
      replace ha := Aside0.mk ha
      have HB := Aside0.mk Q_HB
      refine value_ (w1 := w') (v := .int .i64 (wrap64 (9223372036854775807 - t132))) (by rfl) rfl ?_ ?_
      ·go_simp
       (try simp only [i64_w])
       try rfl
      refine hK.out _ _ ⟨v137, adz_v137, m13_, (by rw [ha.out]; exact putSel_upk 0 hb_ rfl rfl rfl), Q_HI131, Q_HB, fun h0_ => absurd ((hoff 10 (by kernel_rfl)).symm.trans h0_) (by decide), fun h0_ => absurd ((hoff 10 (by kernel_rfl)).symm.trans h0_) (by decide), Q_HI131_e12, fun h0_ => absurd ((hoff 13 (by kernel_rfl)).symm.trans h0_) (by decide)⟩
     refine steps_cons ?_ ?_
     ·rintro b a w' ⟨v137, adz_v137, m13_, ha, Q_HI131, Q_HB, Q_HO138, Q_HA_HO138, Q_HI131_e12, Q_X13_⟩ hb_ hon hoff
      refine ⟨_, rfl, fun K hK => ?_⟩
      have e15 : a.tmps[15]? = some (.int .i64 t132) := by rw [ha]; exact (putSel_off rfl).trans rfl
      replace ha := Aside0.mk ha
      have HB := Aside0.mk Q_HB
      refine value_ (w1 := w') (v := .int .i64 (wrap64 ((-9223372036854775808) - t132))) (by rfl) rfl ?_ ?_
      ·go_simp
       (try simp only [i64_w])
       try rfl
      refine hK.out _ _ ⟨v137, adz_v137, m13_, (by rw [ha.out]; exact putSel_upk 1 hb_ rfl rfl rfl), Q_HI131, Q_HB, fun h0_ => absurd ((hoff 10 (by kernel_rfl)).symm.trans h0_) (by decide), fun h0_ => absurd ((hoff 10 (by kernel_rfl)).symm.trans h0_) (by decide), Q_HI131_e12, fun h0_ => absurd ((hoff 13 (by kernel_rfl)).symm.trans h0_) (by decide)⟩
     refine steps_cons ?_ ?_
     ·rintro b a w' ⟨v137, adz_v137, m13_, ha, Q_HI131, Q_HB, Q_HO138, Q_HA_HO138, Q_HI131_e12, Q_X13_⟩ hb_ hon hoff
      refine ⟨_, rfl, fun K hK => ?_⟩
      have e17 : a.tmps[17]? = some (.int .i64 t132) := by rw [ha]; exact (putSel_off rfl).trans rfl
      replace ha := Aside0.mk ha
      have HB := Aside0.mk Q_HB
      refine value_ (w1 := w') (v := .int .i64 (wrap64 (-t132))) (by rfl) rfl ?_ ?_
      ·go_simp
       (try simp only [i64_w])
       try rfl
      refine hK.out _ _ ⟨v137, adz_v137, m13_, (by rw [ha.out]; exact putSel_upk 2 hb_ rfl rfl rfl), Q_HI131, Q_HB, fun h0_ => absurd ((hoff 10 (by kernel_rfl)).symm.trans h0_) (by decide), fun h0_ => absurd ((hoff 10 (by kernel_rfl)).symm.trans h0_) (by decide), Q_HI131_e12, fun h0_ => absurd ((hoff 13 (by kernel_rfl)).symm.trans h0_) (by decide)⟩
     refine steps_cons ?_ ?_
     ·rintro b a w' ⟨v137, adz_v137, m13_, ha, Q_HI131, Q_HB, Q_HO138, Q_HA_HO138, Q_HI131_e12, Q_X13_⟩ hb_ hon hoff
      refine ⟨_, rfl, fun K hK => ?_⟩
      have e19 : a.tmps[19]? = some (.int .i64 t132) := by rw [ha]; exact (putSel_off rfl).trans rfl
      replace ha := Aside0.mk ha
      have HB := Aside0.mk Q_HB
      refine value_ (w1 := w') (v := .int .i64 (wrap64 (9223372036854775807 - t132))) (by rfl) rfl ?_ ?_
      ·go_simp
       (try simp only [i64_w])
       try rfl
      refine hK.out _ _ ⟨v137, adz_v137, m13_, (by rw [ha.out]; exact putSel_upk 3 hb_ rfl rfl rfl), Q_HI131, Q_HB, fun h0_ => absurd ((hoff 10 (by kernel_rfl)).symm.trans h0_) (by decide), fun h0_ => absurd ((hoff 10 (by kernel_rfl)).symm.trans h0_) (by decide), Q_HI131_e12, fun h0_ => absurd ((hoff 13 (by kernel_rfl)).symm.trans h0_) (by decide)⟩
     refine steps_cons ?_ ?_
     ·rintro b a w' ⟨v137, adz_v137, m13_, ha, Q_HI131, Q_HB, Q_HO138, Q_HA_HO138, Q_HI131_e12, Q_X13_⟩ hb_ hon hoff
      refine ⟨_, rfl, fun K hK => ?_⟩
      have e20 : a.tmps[20]? = some (.int .i64 (wrap64 (9223372036854775807 - t132))) := by rw [ha]; exact putSel_on (e := (8, 20, .int .i64 (wrap64 (9223372036854775807 - t132)))) 3 rfl rfl (hon 8 (by kernel_rfl)) rfl
      replace ha := Aside0.mk ha
      have HB := Aside0.mk Q_HB
      refine value_ (w1 := w') (v := .int .i64 (wrap64 ((wrap64 (9223372036854775807 - t132)) + 1))) (by rfl) rfl ?_ ?_
      ·go_simp
       (try simp only [i64_w])
       try rfl
      refine hK.out _ _ ⟨v137, adz_v137, m13_, (by rw [ha.out]; exact putSel_upk 4 hb_ rfl rfl rfl), Q_HI131, Q_HB, fun h0_ => absurd ((hoff 10 (by kernel_rfl)).symm.trans h0_) (by decide), fun h0_ => absurd ((hoff 10 (by kernel_rfl)).symm.trans h0_) (by decide), Q_HI131_e12, fun h0_ => absurd ((hoff 13 (by kernel_rfl)).symm.trans h0_) (by decide)⟩
     refine steps_cons ?_ ?_
     ·rintro b a w' ⟨v137, adz_v137, m13_, ha, Q_HI131, Q_HB, Q_HO138, Q_HA_HO138, Q_HI131_e12, Q_X13_⟩ hb_ hon hoff
      refine ⟨_, rfl, fun K hK => ?_⟩
      have e14 : a.tmps[14]? = some (.int .i64 (wrap64 (9223372036854775807 - t132))) := by rw [ha]; exact putSel_on (e := (2, 14, .int .i64 (wrap64 (9223372036854775807 - t132)))) 0 rfl rfl (hon 2 (by kernel_rfl)) rfl
      have e16 : a.tmps[16]? = some (.int .i64 (wrap64 ((-9223372036854775808) - t132))) := by rw [ha]; exact putSel_on (e := (4, 16, .int .i64 (wrap64 ((-9223372036854775808) - t132)))) 1 rfl rfl (hon 4 (by kernel_rfl)) rfl
      have e18 : a.tmps[18]? = some (.int .i64 (wrap64 (-t132))) := by rw [ha]; exact putSel_on (e := (6, 18, .int .i64 (wrap64 (-t132)))) 2 rfl rfl (hon 6 (by kernel_rfl)) rfl
      have e21 : a.tmps[21]? = some (.int .i64 (wrap64 ((wrap64 (9223372036854775807 - t132)) + 1))) := by rw [ha]; exact putSel_on (e := (9, 21, .int .i64 (wrap64 ((wrap64 (9223372036854775807 - t132)) + 1)))) 4 rfl rfl (hon 9 (by kernel_rfl)) rfl
      replace ha := Aside0.mk ha
      have HB := Aside0.mk Q_HB
      refine Kd.R_lit_step (Kd.int .i64) _ 2 ?hg (N := 22) ?hd (xs := ([wrap64 (9223372036854775807 - t132), wrap64 ((-9223372036854775808) - t132), wrap64 (-t132), wrap64 ((wrap64 (9223372036854775807 - t132)) + 1)] : List Int)) (inner := [.int .i64 (wrap64 (9223372036854775807 - t132)), .int .i64 (wrap64 ((-9223372036854775808) - t132)), .int .i64 (wrap64 (-t132)), .int .i64 (wrap64 ((wrap64 (9223372036854775807 - t132)) + 1))]) (ok := fun _ => True) (okp := fun _ => True) ?hr ?hp (fun _ hk => hk) trivial (Below.refl _ _) (Nat.le_refl _) (by simp) ?_; (case hd => rfl); (case hg => rfl); (case hr => first | (go_simp; done) | (go_simp; rfl)); (case hp => exact (Reps.one (show Kd.M (Kd.int .i64) _ _ _ (wrap64 (9223372036854775807 - t132)) [.int .i64 (wrap64 (9223372036854775807 - t132))] from rfl) (Reps.one (show Kd.M (Kd.int .i64) _ _ _ (wrap64 ((-9223372036854775808) - t132)) [.int .i64 (wrap64 ((-9223372036854775808) - t132))] from rfl) (Reps.one (show Kd.M (Kd.int .i64) _ _ _ (wrap64 (-t132)) [.int .i64 (wrap64 (-t132))] from rfl) (Reps.one (show Kd.M (Kd.int .i64) _ _ _ (wrap64 ((wrap64 (9223372036854775807 - t132)) + 1)) [.int .i64 (wrap64 ((wrap64 (9223372036854775807 - t132)) + 1))] from rfl) (Reps.none _ _))))))
      intro v137 w13 ho14 hb hg_ hnew_
      clear hg_ hnew_
      (first | rw [← Ny136.out] at ho14 | (simp only [Int.reduceToNat] at ho14; rw [← Ny136.out] at ho14))
      have n0_ := Aside0.mk (Kd.R_lower ho14 (below_size (bw HB)))
      have n2_ := bs HB hb
      have z_HI131 := fun (h0_ : b 12 = false) => (show IsS74 w w13 g131 t129 t135 from by first | exact (IsS74.below (by repeat (first | (with_reducible first | exact (Q_HI131 h0_) | apply IsS74.alloc | apply IsS74.drewN | apply IsS74.drew | apply IsS74.set_1) | exact (Q_HI131 h0_))) hb))
      have z_HI131_e12 := fun (h0_ : b 12 = true) => (show IsS74 w w13 g131 t129 t140 from by first | exact (IsS74.below (by repeat (first | (with_reducible first | exact (Q_HI131_e12 h0_) | apply IsS74.alloc | apply IsS74.drewN | apply IsS74.drew | apply IsS74.set_1) | exact (Q_HI131_e12 h0_))) hb))
      clear HB
      have HO138 := n0_
      have HB := n2_
      clear n0_ n2_
      clear hb ho14
      obtain ⟨Ao15, co15, eo15⟩ := Kd.R_slice HO138.out
      subst eo15
      obtain ⟨ado15, fo15, _⟩ := Kd.at_int (Kd.R_reads' HO138.out).2.2 0 (by decide) (by rw [Ny136.out]; simp)
      cases fo15
      refine hK.out _ _ ⟨.slice (some ado15) y136.length co15, ado15, m13_, (by rw [ha.out]; exact putSel_upk 5 hb_ rfl rfl rfl), z_HI131, (bw HB), fun _ => (by (with_reducible repeat (first | apply Kd.R_alloc | apply Kd.R_drewN | apply Kd.R_drew)); exact HO138.out), fun _ => ⟨_, rfl⟩, z_HI131_e12, fun h0_ => absurd ((hoff 13 (by kernel_rfl)).symm.trans h0_) (by decide)⟩
     refine steps_cons ?_ ?_
     ·rintro b a w' ⟨v137, adz_v137, m13_, ha, Q_HI131, Q_HB, Q_HO138, Q_HA_HO138, Q_HI131_e12, Q_X13_⟩ hb_ hon hoff
      refine ⟨_, rfl, fun K hK => ?_⟩
      have e23 : a.tmps[23]? = some (.pointer (some ⟨g131, 0, none⟩)) := by rw [ha]; exact (putSel_off rfl).trans rfl
      replace ha := Aside0.mk ha
      have HI131 := Aside0.mk (Q_HI131 hb_)
      have HB := Aside0.mk Q_HB
      refine goes_ Try.func51 (by kernel_rfl) rfl #[.pointer (some ⟨g131, 0, none⟩), .int .i64 4] (by rfl) rfl rfl (by first | (simp only [List.map_toArray, List.map_cons, List.map_nil, Act.eval, Array.getD_eq_getD_getElem?, Option.getD_some, e23]; done) | (simp only [List.map_toArray, List.map_cons, List.map_nil, Act.eval, Array.getD_eq_getD_getElem?, Option.getD_some, e23]; rfl)) ?_
      with_reducible refine (spec_l1Rd_below.calls g131 t129 t135 4 t139 t140 w _ ?side1 ?side2 A6.out).mono ?_
      (case side1 => repeat (first | (with_reducible first | exact HI131.out | apply IsS74.alloc | apply IsS74.drewN | apply IsS74.drew | apply IsS74.set_1) | exact HI131.out))
      (case side2 => repeat (first | (with_reducible first | exact HB.out | apply below_alloc | apply pw_below_drewN | apply below_drew1 | refine below_set ?_ (IsS74.ge HI131.out)) | exact HB.out))
      rintro e w13 ⟨rfl, hi, hb, hk⟩
      refine ⟨_, rfl, ?_⟩
      have n0_ := Aside0.mk (hb)
      have n1_ := Aside0.mk (hi)
      have z_HO138 := fun (h0_ : b 10 = true) => (show Kd.R (Kd.int .i64) 2 w13 w.heap.size (fun _ => True) v137 y136 from by first | exact (Kd.R_mono (Kd.R_keep (IsS74.apart (show IsS74 w _ g131 t129 t135 from by repeat (first | (with_reducible first | exact HI131.out | apply IsS74.alloc | apply IsS74.drewN | apply IsS74.drew | apply IsS74.set_1) | exact HI131.out)) (by (with_reducible repeat (first | apply Kd.R_alloc | apply Kd.R_drewN | apply Kd.R_drew)); exact (Q_HO138 h0_)) (by decide)) hk (fun _ h => h.2)) (fun _ h => h.1)) | exact Kd.R_mono (Kd.R_mono (Kd.R_keep (IsS74.apart (show IsS74 w _ g131 t129 t135 from by repeat (first | (with_reducible first | exact HI131.out | apply IsS74.alloc | apply IsS74.drewN | apply IsS74.drew | apply IsS74.set_1) | exact HI131.out)) (by (with_reducible repeat (first | apply Kd.R_alloc | apply Kd.R_drewN | apply Kd.R_drew)); exact (Q_HO138 h0_)) (by decide)) hk (fun _ h => h.2)) (fun _ h => h.1)) (fun _ h_ => by first | trivial | exact h_ | exact h_.1))
      clear HB
      clear HI131
      have HB := n0_
      have HI131 := n1_
      clear n0_ n1_
      (try clear hb)
      (try clear hb2)
      (try clear hk)
      (try clear hi)
      refine hK.out _ _ ⟨v137, adz_v137, m13_, (by rw [ha.out]; exact putSel_upk 6 hb_ rfl rfl rfl), fun h0_ => absurd ((up_self b 12).symm.trans h0_) (by decide), (by repeat (first | (with_reducible first | exact HB.out | apply below_alloc | apply pw_below_drewN | apply below_drew1 | refine below_set ?_ (IsS74.ge HI131.out)) | exact HB.out)), z_HO138, Q_HA_HO138, fun _ => (by repeat (first | (with_reducible first | exact HI131.out | apply IsS74.alloc | apply IsS74.drewN | apply IsS74.drew | apply IsS74.set_1) | exact HI131.out)), fun h0_ => absurd ((hoff 13 (by kernel_rfl)).symm.trans h0_) (by decide)⟩
     refine steps_cons ?_ ?_
     ·rintro b a w' ⟨v137, adz_v137, m13_, ha, Q_HI131, Q_HB, Q_HO138, Q_HA_HO138, Q_HI131_e12, Q_X13_⟩ hb_ hon hoff
      refine ⟨_, rfl, fun K hK => ?_⟩
      have e22 : a.tmps[22]? = some (v137) := by rw [ha]; exact putSel_on (e := (10, 22, v137)) 5 rfl rfl (hon 10 (by kernel_rfl)) rfl
      have e24 : a.tmps[24]? = some (.int .i64 t139) := by rw [ha]; exact putSel_on (e := (12, 24, .int .i64 t139)) 6 rfl rfl (hon 12 (by kernel_rfl)) rfl
      replace ha := Aside0.mk ha
      have HB := Aside0.mk Q_HB
      have HO138 := Aside0.mk (Q_HO138 (hon 10 (by kernel_rfl)))
      have HA_HO138 := Aside0.mk (Q_HA_HO138 (hon 10 (by kernel_rfl)))
      have HI131 := Aside0.mk (Q_HI131_e12 (hon 12 (by kernel_rfl)))
      obtain ⟨c_, hv_⟩ := HA_HO138.out
      rw [hv_] at e22
      refine value_ (w1 := w') (v := .pointer (some (adz_v137.add (t139).toNat))) (by rfl) rfl ?_ ?_
      ·go_simp
       (try simp only [i64_w])
       try rfl
      refine hK.out _ _ ⟨v137, adz_v137, (.pointer (some (adz_v137.add (t139).toNat))), (by rw [ha.out]; exact putSel_upk 7 hb_ rfl rfl rfl), fun h0_ => absurd ((hon 12 (by kernel_rfl)).symm.trans h0_) (by decide), Q_HB, Q_HO138, Q_HA_HO138, Q_HI131_e12, fun _ => rfl⟩
     refine steps_cons ?_ ?_
     ·rintro b a w' ⟨v137, adz_v137, m13_, ha, Q_HI131, Q_HB, Q_HO138, Q_HA_HO138, Q_HI131_e12, Q_X13_⟩ hb_ hon hoff
      refine ⟨_, rfl, fun K hK => ?_⟩
      have e25 : a.tmps[25]? = some (m13_) := by rw [ha]; exact putSel_on (e := (13, 25, m13_)) 7 rfl rfl (hon 13 (by kernel_rfl)) rfl
      rw [Q_X13_ (hon 13 (by kernel_rfl))] at e25
      replace ha := Aside0.mk ha
      have HB := Aside0.mk Q_HB
      have HO138 := Aside0.mk (Q_HO138 (hon 10 (by kernel_rfl)))
      have HA_HO138 := Aside0.mk (Q_HA_HO138 (hon 10 (by kernel_rfl)))
      have HI131 := Aside0.mk (Q_HI131_e12 (hon 12 (by kernel_rfl)))
      obtain ⟨c_, hv_⟩ := HA_HO138.out
      have hF_ := HO138.out
      rw [hv_] at hF_
      obtain ⟨ad_, ea_, hx_⟩ := Kd.at_int (Kd.R_reads' hF_).2.2 t139 (of_eq_true pi141) (of_eq_true qi141)
      cases ea_
      refine value_ (w1 := w') (v := .int .i64 (rd y136 t139)) (by rfl) rfl ?_ ?_
      ·go_simp
       (try simp only [i64_w])
       try rfl
      refine hK.out _ _ ⟨v137, adz_v137, m13_, (by rw [ha.out]; exact putSel_upk 8 hb_ rfl rfl rfl), fun h0_ => absurd ((hon 12 (by kernel_rfl)).symm.trans h0_) (by decide), Q_HB, Q_HO138, Q_HA_HO138, Q_HI131_e12, Q_X13_⟩
     refine steps_cons ?_ ?_
     ·rintro b a w' ⟨v137, adz_v137, m13_, ha, Q_HI131, Q_HB, Q_HO138, Q_HA_HO138, Q_HI131_e12, Q_X13_⟩ hb_ hon hoff
      refine ⟨_, rfl, fun K hK => ?_⟩
      have e12 : a.tmps[12]? = some (.int .i64 t132) := by rw [ha]; exact (putSel_off rfl).trans rfl
      replace ha := Aside0.mk ha
      have HB := Aside0.mk Q_HB
      have HI131 := Aside0.mk (Q_HI131_e12 (hon 12 (by kernel_rfl)))
      refine value_ (w1 := w') (v := .int .i64 t132) (by rfl) rfl ?_ ?_
      ·go_simp
       (try simp only [i64_w])
       try rfl
      refine hK.out _ _ ⟨v137, adz_v137, m13_, (by rw [ha.out]; exact putSel_upk 9 hb_ rfl rfl rfl), fun h0_ => absurd ((hon 12 (by kernel_rfl)).symm.trans h0_) (by decide), Q_HB, Q_HO138, Q_HA_HO138, Q_HI131_e12, Q_X13_⟩
     refine steps_cons ?_ ?_
     ·rintro b a w' ⟨v137, adz_v137, m13_, ha, Q_HI131, Q_HB, Q_HO138, Q_HA_HO138, Q_HI131_e12, Q_X13_⟩ hb_ hon hoff
      refine ⟨_, rfl, fun K hK => ?_⟩
      have e26 : a.tmps[26]? = some (.int .i64 (rd y136 t139)) := by rw [ha]; exact putSel_on (e := (14, 26, .int .i64 (rd y136 t139))) 8 rfl rfl (hon 14 (by kernel_rfl)) rfl
      replace ha := Aside0.mk ha
      have HB := Aside0.mk Q_HB
      have HO138 := Aside0.mk (Q_HO138 (hon 10 (by kernel_rfl)))
      have HA_HO138 := Aside0.mk (Q_HA_HO138 (hon 10 (by kernel_rfl)))
      have HI131 := Aside0.mk (Q_HI131_e12 (hon 12 (by kernel_rfl)))
      refine value_ (w1 := w') (v := .int .i64 (rd y136 t139)) (by rfl) rfl ?_ ?_
      ·go_simp
       (try simp only [i64_w])
       try rfl
      refine hK.out _ _ ⟨v137, adz_v137, m13_, (by rw [ha.out]; exact putSel_upk 10 hb_ rfl rfl rfl), fun h0_ => absurd ((hon 12 (by kernel_rfl)).symm.trans h0_) (by decide), Q_HB, Q_HO138, Q_HA_HO138, Q_HI131_e12, Q_X13_⟩
     exact steps_nil
    rintro b a w17 hall ⟨v137, adz_v137, m13_, ha, Q_HI131, Q_HB, Q_HO138, Q_HA_HO138, Q_HI131_e12, Q_X13_⟩
    clear HB HI131
    have hb2_ := hall 2 (by kernel_rfl)
    have hb4_ := hall 4 (by kernel_rfl)
    have hb6_ := hall 6 (by kernel_rfl)
    have hb8_ := hall 8 (by kernel_rfl)
    have hb9_ := hall 9 (by kernel_rfl)
    have hb10_ := hall 10 (by kernel_rfl)
    have hb12_ := hall 12 (by kernel_rfl)
    have hb13_ := hall 13 (by kernel_rfl)
    have hb14_ := hall 14 (by kernel_rfl)
    have hb15_ := hall 15 (by kernel_rfl)
    have hb16_ := hall 16 (by kernel_rfl)
    subst ha
    obtain rfl := Q_X13_ hb13_
    simp only [putSel, hb2_, hb4_, hb6_, hb8_, hb9_, hb10_, hb12_, hb13_, hb14_, hb15_, hb16_, if_true, Act.put, List.setIfInBounds_toArray, List.set_cons_zero, List.set_cons_succ]
    clear Q_HI131
    have HB := Aside0.mk Q_HB
    clear Q_HB
    have HO138 := Aside0.mk (Q_HO138 hb10_)
    clear Q_HO138
    have HA_HO138 := Aside0.mk (Q_HA_HO138 hb10_)
    clear Q_HA_HO138
    have HI131 := Aside0.mk (Q_HI131_e12 hb12_)
    clear Q_HI131_e12
    clear hall hb2_ hb4_ hb6_ hb8_ hb9_ hb10_ hb12_ hb13_ hb14_ hb15_ hb16_
    obtain ⟨co18, eo18⟩ := HA_HO138.out
    clear HA_HO138
    subst eo18
    try go_wp2
    go_ret2
    exact ⟨by first | rfl | (simp [errW_none, errW_some] <;> rfl) | (simp [*, errW_none, errW_some] <;> rfl), by repeat (first | (with_reducible first | exact HB.out | apply below_alloc | apply pw_below_drewN | apply below_drew1 | refine below_set ?_ (IsS74.ge HI131.out)) | exact HB.out)⟩
   ·rw [if_neg c8] at H
    exact absurd H (by simp)
  ·rw [if_neg c7] at H
   exact absurd H (by simp)
 ·replace c5 := Bool.eq_false_iff.mpr c5
  subst c5
  have H1 : ((spec_l1Rd_num.f k t129 t135).bind fun bt142 => (some (t132, bt142.1))) = some (r1, r2) := by rw [if_neg (show ¬ (false = true) by decide)] at H; exact H
  clear H
  have H := H1
  clear H1
  replace H := Option.bind_eq_some_iff.mp H
  obtain ⟨⟨t142, t143⟩, A190, H⟩ := H
  replace H : (some (t132, t142)) = some (r1, r2) := H
  have A19 := Aside0.mk A190
  clear A190
  simp only [Option.some.injEq, Prod.mk.injEq] at H
  obtain ⟨rfl, rfl⟩ := H
  go_enter Try.func28, Try.ntmps28
  go_wp2_with (first | ((with_reducible refine gate_callee (f := 42) rfl ?_); refine goesL_ (some 7) rfl rfl Try.func42 (by kernel_rfl) rfl #[.slice A0 l0.length c0] rfl (by (try simp only [List.map_toArray, List.map_cons, List.map_nil]); first | done | rfl | (simp only [List.length_drop, List.length_take]; rfl)) ?_; (with_reducible refine (spec_l1Open.calls _ _ l0 t129 t130 w _ ?side1 ?side2 ?side3 A2.out).mono ?_); (case side1 => repeat (first | (with_reducible first | exact HB.out | apply below_alloc | apply pw_below_drewN | apply below_drew1) | exact HB.out)); (case side2 => exact HR0.out); (case side3 => exact HC0.out); rintro e w20 ⟨g131, rfl, hi, hb, hb2⟩; refine ⟨_, rfl, ?_⟩; replace HB := Aside0.mk (hb); have HI131 := Aside0.mk (hi); (try clear hb); (try clear hb2); (try clear hk); (try clear hi)) | ((with_reducible refine gate_callee (f := 49) rfl ?_); refine goesL_ (some 9) rfl rfl Try.func49 (by kernel_rfl) rfl #[.pointer (some ⟨g131, 0, none⟩)] rfl (by (try simp only [List.map_toArray, List.map_cons, List.map_nil]); first | done | rfl | (simp only [List.length_drop, List.length_take]; rfl)) ?_; (with_reducible refine (spec_l1Rd_num.calls k g131 t129 t130 t132 t133 w _ ?side1 ?side2 A3.out).mono ?_); (case side1 => repeat (first | (with_reducible first | exact HI131.out | apply IsS74.alloc | apply IsS74.drewN | apply IsS74.drew | apply IsS74.set_1) | exact HI131.out)); (case side2 => repeat (first | (with_reducible first | exact HB.out | apply below_alloc | apply pw_below_drewN | apply below_drew1 | refine below_set ?_ (IsS74.ge HI131.out)) | exact HB.out)); rintro e w21 ⟨rfl, hi, hb, hk⟩; refine ⟨_, rfl, ?_⟩; replace HB := Aside0.mk (hb); replace HI131 := Aside0.mk (hi); (try clear hb); (try clear hb2); (try clear hk); (try clear hi)) | ((with_reducible refine gate_callee (f := 50) rfl ?_); refine goesL_ (some 11) rfl rfl Try.func50 (by kernel_rfl) rfl #[.pointer (some ⟨g131, 0, none⟩), .int .i64 4] rfl (by (try simp only [List.map_toArray, List.map_cons, List.map_nil]); first | done | rfl | (simp only [List.length_drop, List.length_take]; rfl)) ?_; (with_reducible refine (spec_l1Rd_once.calls g131 t129 t133 4 false t135 w _ ?side1 ?side2 A4.out).mono ?_); (case side1 => repeat (first | (with_reducible first | exact HI131.out | apply IsS74.alloc | apply IsS74.drewN | apply IsS74.drew | apply IsS74.set_1) | exact HI131.out)); (case side2 => repeat (first | (with_reducible first | exact HB.out | apply below_alloc | apply pw_below_drewN | apply below_drew1 | refine below_set ?_ (IsS74.ge HI131.out)) | exact HB.out)); rintro e w22 ⟨rfl, hi, hb, hk⟩; refine ⟨_, rfl, ?_⟩; replace HB := Aside0.mk (hb); replace HI131 := Aside0.mk (hi); (try clear hb); (try clear hb2); (try clear hk); (try clear hi)) | ((with_reducible refine gate_callee (f := 49) rfl ?_); refine goesL_ (some 29) rfl rfl Try.func49 (by kernel_rfl) rfl #[.pointer (some ⟨g131, 0, none⟩)] rfl (by (try simp only [List.map_toArray, List.map_cons, List.map_nil]); first | done | rfl | (simp only [List.length_drop, List.length_take]; rfl)) ?_; (with_reducible refine (spec_l1Rd_num.calls k g131 t129 t135 t142 t143 w _ ?side1 ?side2 A19.out).mono ?_); (case side1 => repeat (first | (with_reducible first | exact HI131.out | apply IsS74.alloc | apply IsS74.drewN | apply IsS74.drew | apply IsS74.set_1) | exact HI131.out)); (case side2 => repeat (first | (with_reducible first | exact HB.out | apply below_alloc | apply pw_below_drewN | apply below_drew1 | refine below_set ?_ (IsS74.ge HI131.out)) | exact HB.out)); rintro e w23 ⟨rfl, hi, hb, hk⟩; refine ⟨_, rfl, ?_⟩; replace HB := Aside0.mk (hb); replace HI131 := Aside0.mk (hi); (try clear hb); (try clear hb2); (try clear hk); (try clear hi)))
  go_ret2
  exact ⟨by first | rfl | (simp [errW_none, errW_some] <;> rfl) | (simp [*, errW_none, errW_some] <;> rfl), by repeat (first | (with_reducible first | exact HB.out | apply below_alloc | apply pw_below_drewN | apply below_drew1 | refine below_set ?_ (IsS74.ge HI131.out)) | exact HB.out)⟩

end Go.Proofs.Ytdjhalelgknnkaa.Q
