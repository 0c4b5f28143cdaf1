-- Contracts of the program's functions, each with the plain function that it computes.
import Derived.Test.YtblgpjllgadibaaQx0
import Derived.Test.YtblgpjllgadibaaQx2
import Derived.Test.YtblgpjllgadibaaQx4
namespace Go.Proofs.Ytblgpjllgadibaa.Q
open Go.RowKit Go.Proofs.YtblgpjllgadibaaW.PrintWords Go.Proofs.YtblgpjllgadibaaW.PrintLast Go.Proofs.YtblgpjllgadibaaW.PrintMore
attribute [local go_sem] max2_int min2_int max_two min_two max_three min_three max_four min_four   -- for this text's walks alone
set_option linter.unusedVariables false
set_option linter.unusedSimpArgs false

/-! ### impl_NumSub: function 13 -/
def impl_NumSub.f (a0 : Int) (a1 : Int) : Option (Int × Int) := if (-9223372036854775808 ≤ a0 ∧ a0 ≤ 9223372036854775807) ∧ (-9223372036854775808 ≤ a1 ∧ a1 ≤ 9223372036854775807) then some (Math.subV a0 a1) else none
set_option maxHeartbeats 1000000 in
theorem impl_NumSub.calls (a0 : Int) (a1 : Int) (r1 : Int) (r2 : Int) (w : World) (h : impl_NumSub.f a0 a1 = some (r1, r2)) :
    Calls Try.prog 13 #[.int .i64 a0, .int .i64 a1] w fun e w' => e = .returned (.tuple #[.int .i64 r1, .int .i64 r2]) ∧ Drawn0 w w' := by
  unfold impl_NumSub.f at h
  split at h
  case isFalse => exact absurd h (by simp)
  rename_i hb
  obtain ⟨⟨l0, u0⟩, l1, u1⟩ := hb
  have hv := Option.some.inj h
  clear h
  by_cases p : a1 < 0
  · by_cases q : 9223372036854775807 + a1 < a0
    · have e : Math.subV a0 a1 = (0, 1) := by unfold Math.subV; rw [if_pos (by omega)]
      rw [e] at hv
      simp only [Prod.mk.injEq] at hv
      obtain ⟨rfl, rfl⟩ := hv
      clear e
      go_enter Try.func13, Try.ntmps13
      go_wp2
      go_ret2
      exact ⟨rfl, by repeat (first | exact Drawn0.refl _ | apply Drawn0.step)⟩
    · have e : Math.subV a0 a1 = (a0 - a1, 0) := by unfold Math.subV; rw [if_neg (by omega), if_neg (by omega)]
      rw [e] at hv
      simp only [Prod.mk.injEq] at hv
      obtain ⟨rfl, rfl⟩ := hv
      clear e
      go_enter Try.func13, Try.ntmps13
      go_wp2
      go_ret2
      exact ⟨rfl, by repeat (first | exact Drawn0.refl _ | apply Drawn0.step)⟩
  · by_cases p2 : 0 < a1
    · by_cases q : a0 < -9223372036854775808 + a1
      · have e : Math.subV a0 a1 = (0, -1) := by unfold Math.subV; rw [if_neg (by omega), if_pos (by omega)]
        rw [e] at hv
        simp only [Prod.mk.injEq] at hv
        obtain ⟨rfl, rfl⟩ := hv
        clear e
        go_enter Try.func13, Try.ntmps13
        go_wp2
        go_ret2
        exact ⟨rfl, by repeat (first | exact Drawn0.refl _ | apply Drawn0.step)⟩
      · have e : Math.subV a0 a1 = (a0 - a1, 0) := by unfold Math.subV; rw [if_neg (by omega), if_neg (by omega)]
        rw [e] at hv
        simp only [Prod.mk.injEq] at hv
        obtain ⟨rfl, rfl⟩ := hv
        clear e
        go_enter Try.func13, Try.ntmps13
        go_wp2
        go_ret2
        exact ⟨rfl, by repeat (first | exact Drawn0.refl _ | apply Drawn0.step)⟩
    · have z : a1 = 0 := by omega
      subst z
      clear p p2
      have e : Math.subV a0 0 = (a0, 0) := by unfold Math.subV; rw [if_neg (by omega), if_neg (by omega)]; simp
      rw [e] at hv
      simp only [Prod.mk.injEq] at hv
      obtain ⟨rfl, rfl⟩ := hv
      clear e
      go_enter Try.func13, Try.ntmps13
      go_wp2
      go_ret2
      exact ⟨rfl, by repeat (first | exact Drawn0.refl _ | apply Drawn0.step)⟩

/-! ### spec_NumSub: function 14 -/
def spec_NumSub.f (a0 : Int) (a1 : Int) : Option (Int × Int) := if (-9223372036854775808 ≤ a0 ∧ a0 ≤ 9223372036854775807) ∧ (-9223372036854775808 ≤ a1 ∧ a1 ≤ 9223372036854775807) then some (Math.subV a0 a1) else none
set_option maxHeartbeats 1000000 in
theorem spec_NumSub.calls (a0 : Int) (a1 : Int) (r1 : Int) (r2 : Int) (w : World) (h : spec_NumSub.f a0 a1 = some (r1, r2)) :
    Calls Try.prog 14 #[.int .i64 a0, .int .i64 a1] w fun e w' => e = .returned (.tuple #[.int .i64 r1, .int .i64 r2]) ∧ Drawn0 w w' := by
  unfold spec_NumSub.f at h
  split at h
  case isFalse => exact absurd h (by simp)
  rename_i hb
  obtain ⟨⟨l0, u0⟩, l1, u1⟩ := hb
  have hv := Option.some.inj h
  clear h
  by_cases p : a1 < 0
  · by_cases q : 9223372036854775807 + a1 < a0
    · have e : Math.subV a0 a1 = (0, 1) := by unfold Math.subV; rw [if_pos (by omega)]
      rw [e] at hv
      simp only [Prod.mk.injEq] at hv
      obtain ⟨rfl, rfl⟩ := hv
      clear e
      go_enter Try.func14, Try.ntmps14
      go_wp2
      go_ret2
      exact ⟨rfl, by repeat (first | exact Drawn0.refl _ | apply Drawn0.step)⟩
    · have e : Math.subV a0 a1 = (a0 - a1, 0) := by unfold Math.subV; rw [if_neg (by omega), if_neg (by omega)]
      rw [e] at hv
      simp only [Prod.mk.injEq] at hv
      obtain ⟨rfl, rfl⟩ := hv
      clear e
      go_enter Try.func14, Try.ntmps14
      go_wp2
      go_ret2
      exact ⟨rfl, by repeat (first | exact Drawn0.refl _ | apply Drawn0.step)⟩
  · by_cases p2 : 0 < a1
    · by_cases q : a0 < -9223372036854775808 + a1
      · have e : Math.subV a0 a1 = (0, -1) := by unfold Math.subV; rw [if_neg (by omega), if_pos (by omega)]
        rw [e] at hv
        simp only [Prod.mk.injEq] at hv
        obtain ⟨rfl, rfl⟩ := hv
        clear e
        go_enter Try.func14, Try.ntmps14
        go_wp2
        go_ret2
        exact ⟨rfl, by repeat (first | exact Drawn0.refl _ | apply Drawn0.step)⟩
      · have e : Math.subV a0 a1 = (a0 - a1, 0) := by unfold Math.subV; rw [if_neg (by omega), if_neg (by omega)]
        rw [e] at hv
        simp only [Prod.mk.injEq] at hv
        obtain ⟨rfl, rfl⟩ := hv
        clear e
        go_enter Try.func14, Try.ntmps14
        go_wp2
        go_ret2
        exact ⟨rfl, by repeat (first | exact Drawn0.refl _ | apply Drawn0.step)⟩
    · have z : a1 = 0 := by omega
      subst z
      clear p p2
      have e : Math.subV a0 0 = (a0, 0) := by unfold Math.subV; rw [if_neg (by omega), if_neg (by omega)]; simp
      rw [e] at hv
      simp only [Prod.mk.injEq] at hv
      obtain ⟨rfl, rfl⟩ := hv
      clear e
      go_enter Try.func14, Try.ntmps14
      go_wp2
      go_ret2
      exact ⟨rfl, by repeat (first | exact Drawn0.refl _ | apply Drawn0.step)⟩

/-! ### impl_NumAdd: function 15 -/
def impl_NumAdd.f (a0 : Int) (a1 : Int) : Option (Int × Int) := if (-9223372036854775808 ≤ a0 ∧ a0 ≤ 9223372036854775807) ∧ (-9223372036854775808 ≤ a1 ∧ a1 ≤ 9223372036854775807) then some (Math.addV a0 a1) else none
set_option maxHeartbeats 1000000 in
theorem impl_NumAdd.calls (a0 : Int) (a1 : Int) (r1 : Int) (r2 : Int) (w : World) (h : impl_NumAdd.f a0 a1 = some (r1, r2)) :
    Calls Try.prog 15 #[.int .i64 a0, .int .i64 a1] w fun e w' => e = .returned (.tuple #[.int .i64 r1, .int .i64 r2]) ∧ Drawn0 w w' := by
  unfold impl_NumAdd.f at h
  split at h
  case isFalse => exact absurd h (by simp)
  rename_i hb
  obtain ⟨⟨l0, u0⟩, l1, u1⟩ := hb
  have hv := Option.some.inj h
  clear h
  by_cases p : 0 < a1
  · by_cases q : 9223372036854775807 - a1 < a0
    · have e : Math.addV a0 a1 = (0, 1) := by unfold Math.addV; rw [if_pos (by omega)]
      rw [e] at hv
      simp only [Prod.mk.injEq] at hv
      obtain ⟨rfl, rfl⟩ := hv
      clear e
      go_enter Try.func15, Try.ntmps15
      go_wp2
      go_ret2
      exact ⟨rfl, by repeat (first | exact Drawn0.refl _ | apply Drawn0.step)⟩
    · have e : Math.addV a0 a1 = (a0 + a1, 0) := by unfold Math.addV; rw [if_neg (by omega), if_neg (by omega)]
      rw [e] at hv
      simp only [Prod.mk.injEq] at hv
      obtain ⟨rfl, rfl⟩ := hv
      clear e
      go_enter Try.func15, Try.ntmps15
      go_wp2
      go_ret2
      exact ⟨rfl, by repeat (first | exact Drawn0.refl _ | apply Drawn0.step)⟩
  · by_cases p2 : a1 < 0
    · by_cases q : a0 < -9223372036854775808 - a1
      · have e : Math.addV a0 a1 = (0, -1) := by unfold Math.addV; rw [if_neg (by omega), if_pos (by omega)]
        rw [e] at hv
        simp only [Prod.mk.injEq] at hv
        obtain ⟨rfl, rfl⟩ := hv
        clear e
        go_enter Try.func15, Try.ntmps15
        go_wp2
        go_ret2
        exact ⟨rfl, by repeat (first | exact Drawn0.refl _ | apply Drawn0.step)⟩
      · have e : Math.addV a0 a1 = (a0 + a1, 0) := by unfold Math.addV; rw [if_neg (by omega), if_neg (by omega)]
        rw [e] at hv
        simp only [Prod.mk.injEq] at hv
        obtain ⟨rfl, rfl⟩ := hv
        clear e
        go_enter Try.func15, Try.ntmps15
        go_wp2
        go_ret2
        exact ⟨rfl, by repeat (first | exact Drawn0.refl _ | apply Drawn0.step)⟩
    · have z : a1 = 0 := by omega
      subst z
      clear p p2
      have e : Math.addV a0 0 = (a0, 0) := by unfold Math.addV; rw [if_neg (by omega), if_neg (by omega)]; simp
      rw [e] at hv
      simp only [Prod.mk.injEq] at hv
      obtain ⟨rfl, rfl⟩ := hv
      clear e
      go_enter Try.func15, Try.ntmps15
      go_wp2
      go_ret2
      exact ⟨rfl, by repeat (first | exact Drawn0.refl _ | apply Drawn0.step)⟩

/-! ### laws_FnNumSub: function 3 -/
def laws_FnNumSub.f (k : Nat) (l0 : List Int) : Option (Bool) := (laws_big.f l0).bind fun t146 => (if t146 = true then (some true) else ((spec_DrawNumSub.f k l0).bind fun bt147 => ((impl_NumSub.f bt147.1 bt147.2).bind fun bt149 => ((spec_NumSub.f bt147.1 bt147.2).bind fun bt151 => (if bt149.1 = bt151.1 then (if bt149.2 = bt151.2 then (if bt147.2 = (-9223372036854775808) then (some (bt149.2 == bt151.2)) else ((impl_NumAdd.f bt147.1 (wrap64 (-bt147.2))).bind fun bt153 => (if bt149.1 = bt153.1 then (some (bt149.2 == bt153.2)) else (some false)))) else (some (bt149.2 == bt151.2))) else (some false))))))
theorem laws_FnNumSub.mono : ∀ a0 k, LeO (laws_FnNumSub.f k a0) (laws_FnNumSub.f (k + 1) a0) := by
  intro a0 k
  unfold laws_FnNumSub.f
  repeat' first
      | (with_reducible exact spec_DrawNumSub.mono _ _)
      | (with_reducible exact LeO.refl _)
      | (with_reducible exact LeO.none _)
      | (with_reducible refine LeO.ite ?_ ?_)
      | (with_reducible refine LeO.bind ?_ (fun _ => ?_))
      | exact spec_DrawNumSub.mono _ _
      | exact LeO.none _
      | refine LeO.ite ?_ ?_
      | refine LeO.bind ?_ (fun _ => ?_)
set_option maxHeartbeats 8000000 in
set_option maxRecDepth 100000 in
theorem laws_FnNumSub.calls (k : Nat) (A0 : Option Addr) (c0 : Nat) (l0 : List Int) (w : World) (hr0 : Kd.C (Kd.int .u8) w A0 l0.length l0) (hc0 : l0.length ≤ c0) (h : laws_FnNumSub.f k l0 = some true) :
    Calls Try.prog 3 #[.slice A0 l0.length c0] w fun e w' => e = .returned (.bool true) ∧ Below w.heap.size w w' := by
  have HR0 := Aside0.mk hr0
  have HC0 := Aside0.mk hc0
  clear hr0 hc0
  have HB := Aside0.mk (Below.refl w.heap.size w)
  have H : ((laws_big.f l0).bind fun t146 => (if t146 = true then (some true) else ((spec_DrawNumSub.f k l0).bind fun bt147 => ((impl_NumSub.f bt147.1 bt147.2).bind fun bt149 => ((spec_NumSub.f bt147.1 bt147.2).bind fun bt151 => (if bt149.1 = bt151.1 then (if bt149.2 = bt151.2 then (if bt147.2 = (-9223372036854775808) then (some (bt149.2 == bt151.2)) else ((impl_NumAdd.f bt147.1 (wrap64 (-bt147.2))).bind fun bt153 => (if bt149.1 = bt153.1 then (some (bt149.2 == bt153.2)) else (some false)))) else (some (bt149.2 == bt151.2))) else (some false))))))) = some true := h
  clear h
  replace H := Option.bind_eq_some_iff.mp H
  obtain ⟨t146, A20, H⟩ := H
  replace H : (if t146 = true then (some true) else ((spec_DrawNumSub.f k l0).bind fun bt147 => ((impl_NumSub.f bt147.1 bt147.2).bind fun bt149 => ((spec_NumSub.f bt147.1 bt147.2).bind fun bt151 => (if bt149.1 = bt151.1 then (if bt149.2 = bt151.2 then (if bt147.2 = (-9223372036854775808) then (some (bt149.2 == bt151.2)) else ((impl_NumAdd.f bt147.1 (wrap64 (-bt147.2))).bind fun bt153 => (if bt149.1 = bt153.1 then (some (bt149.2 == bt153.2)) else (some false)))) else (some (bt149.2 == bt151.2))) else (some false)))))) = some true := H
  have A2 := Aside0.mk A20
  clear A20
  by_cases c3 : t146 = true
  · subst c3
    have H1 : (some true) = some true := by rw [if_pos rfl] at H; first | done | exact H
    clear H
    have H := H1
    clear H1
    have HE_ := Aside0.mk (Option.some.inj H)
    clear H
    go_enter Try.func3, Try.ntmps3
    go_wp2_with (first | ((with_reducible refine gate_callee (f := 11) rfl ?_); refine goesL_ (some 12) rfl rfl Try.func11 (by kernel_rfl) rfl #[.slice A0 l0.length c0] rfl (by (try simp only [List.map_toArray, List.map_cons, List.map_nil]); first | done | rfl | (simp only [List.length_drop, List.length_take]; rfl)) ?_; (with_reducible refine (laws_big.calls _ _ l0 true _ ?side1 ?side2 A2.out).mono ?_); (case side1 => repeat (first | exact HR0.out | (with_reducible refine Kd.C_alloc ?_ _) | (with_reducible refine Kd.C_drewN ?_ _) | (with_reducible refine Kd.C_drew ?_))); (case side2 => exact HC0.out); rintro e w' ⟨rfl, ⟨nd, rfl⟩⟩; refine ⟨_, rfl, ?_⟩))
    go_ret
    exact ⟨by first | rfl | exact congrArg (fun b_ => Ending.returned (Value.bool b_)) HE_.out | (refine absurd HE_.out ?_; simp [*]; done) | (have h_ := HE_.out; clear HE_; simp_all; done) | (have h_ := HE_.out; clear HE_; simp_all; omega) | (simp [errW_none, errW_some] <;> rfl) | (simp [*, errW_none, errW_some] <;> rfl), by repeat (first | (with_reducible first | exact HB.out | apply below_alloc | apply pw_below_drewN | apply below_drew1) | exact HB.out)⟩
  · replace c3 := Bool.eq_false_iff.mpr c3
    subst c3
    have H1 : ((spec_DrawNumSub.f k l0).bind fun bt147 => ((impl_NumSub.f bt147.1 bt147.2).bind fun bt149 => ((spec_NumSub.f bt147.1 bt147.2).bind fun bt151 => (if bt149.1 = bt151.1 then (if bt149.2 = bt151.2 then (if bt147.2 = (-9223372036854775808) then (some (bt149.2 == bt151.2)) else ((impl_NumAdd.f bt147.1 (wrap64 (-bt147.2))).bind fun bt153 => (if bt149.1 = bt153.1 then (some (bt149.2 == bt153.2)) else (some false)))) else (some (bt149.2 == bt151.2))) else (some false))))) = some true := by rw [if_neg (show ¬ (false = true) by decide)] at H; first | done | exact H
    clear H
    have H := H1
    clear H1
    replace H := Option.bind_eq_some_iff.mp H
    obtain ⟨⟨t147, t148⟩, A40, H⟩ := H
    replace H : ((impl_NumSub.f t147 t148).bind fun bt149 => ((spec_NumSub.f t147 t148).bind fun bt151 => (if bt149.1 = bt151.1 then (if bt149.2 = bt151.2 then (if t148 = (-9223372036854775808) then (some (bt149.2 == bt151.2)) else ((impl_NumAdd.f t147 (wrap64 (-t148))).bind fun bt153 => (if bt149.1 = bt153.1 then (some (bt149.2 == bt153.2)) else (some false)))) else (some (bt149.2 == bt151.2))) else (some false)))) = some true := H
    have A4 := Aside0.mk A40
    clear A40
    replace H := Option.bind_eq_some_iff.mp H
    obtain ⟨⟨t149, t150⟩, A50, H⟩ := H
    replace H : ((spec_NumSub.f t147 t148).bind fun bt151 => (if t149 = bt151.1 then (if t150 = bt151.2 then (if t148 = (-9223372036854775808) then (some (t150 == bt151.2)) else ((impl_NumAdd.f t147 (wrap64 (-t148))).bind fun bt153 => (if t149 = bt153.1 then (some (t150 == bt153.2)) else (some false)))) else (some (t150 == bt151.2))) else (some false))) = some true := H
    have A5 := Aside0.mk A50
    clear A50
    replace H := Option.bind_eq_some_iff.mp H
    obtain ⟨⟨t151, t152⟩, A60, H⟩ := H
    replace H : (if t149 = t151 then (if t150 = t152 then (if t148 = (-9223372036854775808) then (some (t150 == t152)) else ((impl_NumAdd.f t147 (wrap64 (-t148))).bind fun bt153 => (if t149 = bt153.1 then (some (t150 == bt153.2)) else (some false)))) else (some (t150 == t152))) else (some false)) = some true := H
    have A6 := Aside0.mk A60
    clear A60
    by_cases c7 : t149 = t151
    · rw [if_pos c7] at H
      have c7b0 : (t149 == t151) = true := beq_iff_eq.mpr c7
      have c7b1 : (t149 != t151) = false := bne_eq_false_iff_eq.mpr c7
      clear c7
      by_cases c8 : t150 = t152
      · rw [if_pos c8] at H
        have c8b0 : (t150 == t152) = true := beq_iff_eq.mpr c8
        have c8b1 : (t150 != t152) = false := bne_eq_false_iff_eq.mpr c8
        clear c8
        by_cases c9 : t148 = (-9223372036854775808)
        · rw [if_pos c9] at H
          have c9b0 : (t148 == (-9223372036854775808)) = true := beq_iff_eq.mpr c9
          have c9b1 : (t148 != (-9223372036854775808)) = false := bne_eq_false_iff_eq.mpr c9
          clear c9
          have HE_ := Aside0.mk (Option.some.inj H)
          clear H
          go_enter Try.func3, Try.ntmps3
          go_wp2_with (first | ((with_reducible refine gate_callee (f := 11) rfl ?_); refine goesL_ (some 12) rfl rfl Try.func11 (by kernel_rfl) rfl #[.slice A0 l0.length c0] rfl (by (try simp only [List.map_toArray, List.map_cons, List.map_nil]); first | done | rfl | (simp only [List.length_drop, List.length_take]; rfl)) ?_; (with_reducible refine (laws_big.calls _ _ l0 false _ ?side1 ?side2 A2.out).mono ?_); (case side1 => repeat (first | exact HR0.out | (with_reducible refine Kd.C_alloc ?_ _) | (with_reducible refine Kd.C_drewN ?_ _) | (with_reducible refine Kd.C_drew ?_))); (case side2 => exact HC0.out); rintro e w' ⟨rfl, ⟨nd, rfl⟩⟩; refine ⟨_, rfl, ?_⟩) | ((with_reducible refine gate_callee (f := 12) rfl ?_); refine goesL_ (some 15) rfl rfl Try.func12 (by kernel_rfl) rfl #[.slice A0 l0.length c0] rfl (by (try simp only [List.map_toArray, List.map_cons, List.map_nil]); first | done | rfl | (simp only [List.length_drop, List.length_take]; rfl)) ?_; (with_reducible refine (spec_DrawNumSub.calls k _ _ l0 t147 t148 _ ?side1 ?side2 A4.out).mono ?_); (case side1 => repeat (first | exact HR0.out | (with_reducible refine Kd.C_alloc ?_ _) | (with_reducible refine Kd.C_drewN ?_ _) | (with_reducible refine Kd.C_drew ?_))); (case side2 => exact HC0.out); rintro e w10 ⟨rfl, hb⟩; refine ⟨_, rfl, ?_⟩; have n0_ := Aside0.mk (below_step (by repeat (first | (with_reducible first | exact HB.out | apply below_alloc | apply pw_below_drewN | apply below_drew1) | exact HB.out)) hb); clear HB; have HB := n0_; clear n0_; (try clear hb); (try clear hb2); (try clear hk); (try clear hi)) | ((with_reducible refine gate_callee (f := 13) rfl ?_); refine goesL_ (some 21) rfl rfl Try.func13 (by kernel_rfl) rfl #[.int .i64 t147, .int .i64 t148] rfl (by (try simp only [List.map_toArray, List.map_cons, List.map_nil]); first | done | rfl | (simp only [List.length_drop, List.length_take]; rfl)) ?_; (with_reducible refine (impl_NumSub.calls t147 t148 t149 t150 _ A5.out).mono ?_); rintro e w' ⟨rfl, ⟨nd, rfl⟩⟩; refine ⟨_, rfl, ?_⟩) | ((with_reducible refine gate_callee (f := 14) rfl ?_); refine goesL_ (some 27) rfl rfl Try.func14 (by kernel_rfl) rfl #[.int .i64 t147, .int .i64 t148] rfl (by (try simp only [List.map_toArray, List.map_cons, List.map_nil]); first | done | rfl | (simp only [List.length_drop, List.length_take]; rfl)) ?_; (with_reducible refine (spec_NumSub.calls t147 t148 t151 t152 _ A6.out).mono ?_); rintro e w' ⟨rfl, ⟨nd, rfl⟩⟩; refine ⟨_, rfl, ?_⟩))
          go_ret
          exact ⟨by first | rfl | exact congrArg (fun b_ => Ending.returned (Value.bool b_)) HE_.out | (refine absurd HE_.out ?_; simp [*]; done) | (have h_ := HE_.out; clear HE_; simp_all; done) | (have h_ := HE_.out; clear HE_; simp_all; omega) | (simp [errW_none, errW_some] <;> rfl) | (simp [*, errW_none, errW_some] <;> rfl), by repeat (first | (with_reducible first | exact HB.out | apply below_alloc | apply pw_below_drewN | apply below_drew1) | exact HB.out)⟩
        · rw [if_neg c9] at H
          have c9b0 : (t148 == (-9223372036854775808)) = false := beq_eq_false_iff_ne.mpr c9
          have c9b1 : (t148 != (-9223372036854775808)) = true := bne_iff_ne.mpr c9
          replace H := Option.bind_eq_some_iff.mp H
          obtain ⟨⟨t153, t154⟩, A110, H⟩ := H
          replace H : (if t149 = t153 then (some (t150 == t154)) else (some false)) = some true := H
          have A11 := Aside0.mk A110
          clear A110
          by_cases c12 : t149 = t153
          · rw [if_pos c12] at H
            have c12b0 : (t149 == t153) = true := beq_iff_eq.mpr c12
            have c12b1 : (t149 != t153) = false := bne_eq_false_iff_eq.mpr c12
            clear c12
            have HE_ := Aside0.mk (Option.some.inj H)
            clear H
            go_enter Try.func3, Try.ntmps3
            go_wp2_with (first | ((with_reducible refine gate_callee (f := 11) rfl ?_); refine goesL_ (some 12) rfl rfl Try.func11 (by kernel_rfl) rfl #[.slice A0 l0.length c0] rfl (by (try simp only [List.map_toArray, List.map_cons, List.map_nil]); first | done | rfl | (simp only [List.length_drop, List.length_take]; rfl)) ?_; (with_reducible refine (laws_big.calls _ _ l0 false _ ?side1 ?side2 A2.out).mono ?_); (case side1 => repeat (first | exact HR0.out | (with_reducible refine Kd.C_alloc ?_ _) | (with_reducible refine Kd.C_drewN ?_ _) | (with_reducible refine Kd.C_drew ?_))); (case side2 => exact HC0.out); rintro e w' ⟨rfl, ⟨nd, rfl⟩⟩; refine ⟨_, rfl, ?_⟩) | ((with_reducible refine gate_callee (f := 12) rfl ?_); refine goesL_ (some 15) rfl rfl Try.func12 (by kernel_rfl) rfl #[.slice A0 l0.length c0] rfl (by (try simp only [List.map_toArray, List.map_cons, List.map_nil]); first | done | rfl | (simp only [List.length_drop, List.length_take]; rfl)) ?_; (with_reducible refine (spec_DrawNumSub.calls k _ _ l0 t147 t148 _ ?side1 ?side2 A4.out).mono ?_); (case side1 => repeat (first | exact HR0.out | (with_reducible refine Kd.C_alloc ?_ _) | (with_reducible refine Kd.C_drewN ?_ _) | (with_reducible refine Kd.C_drew ?_))); (case side2 => exact HC0.out); rintro e w13 ⟨rfl, hb⟩; refine ⟨_, rfl, ?_⟩; have n0_ := Aside0.mk (below_step (by repeat (first | (with_reducible first | exact HB.out | apply below_alloc | apply pw_below_drewN | apply below_drew1) | exact HB.out)) hb); clear HB; have HB := n0_; clear n0_; (try clear hb); (try clear hb2); (try clear hk); (try clear hi)) | ((with_reducible refine gate_callee (f := 13) rfl ?_); refine goesL_ (some 21) rfl rfl Try.func13 (by kernel_rfl) rfl #[.int .i64 t147, .int .i64 t148] rfl (by (try simp only [List.map_toArray, List.map_cons, List.map_nil]); first | done | rfl | (simp only [List.length_drop, List.length_take]; rfl)) ?_; (with_reducible refine (impl_NumSub.calls t147 t148 t149 t150 _ A5.out).mono ?_); rintro e w' ⟨rfl, ⟨nd, rfl⟩⟩; refine ⟨_, rfl, ?_⟩) | ((with_reducible refine gate_callee (f := 14) rfl ?_); refine goesL_ (some 27) rfl rfl Try.func14 (by kernel_rfl) rfl #[.int .i64 t147, .int .i64 t148] rfl (by (try simp only [List.map_toArray, List.map_cons, List.map_nil]); first | done | rfl | (simp only [List.length_drop, List.length_take]; rfl)) ?_; (with_reducible refine (spec_NumSub.calls t147 t148 t151 t152 _ A6.out).mono ?_); rintro e w' ⟨rfl, ⟨nd, rfl⟩⟩; refine ⟨_, rfl, ?_⟩) | ((with_reducible refine gate_callee (f := 15) rfl ?_); refine goesL_ (some 54) rfl rfl Try.func15 (by kernel_rfl) rfl #[.int .i64 t147, .int .i64 (wrap64 (-t148))] rfl (by (try simp only [List.map_toArray, List.map_cons, List.map_nil]); first | done | rfl | (simp only [List.length_drop, List.length_take]; rfl)) ?_; (with_reducible refine (impl_NumAdd.calls t147 (wrap64 (-t148)) t153 t154 _ A11.out).mono ?_); rintro e w' ⟨rfl, ⟨nd, rfl⟩⟩; refine ⟨_, rfl, ?_⟩))
            go_ret
            exact ⟨by first | rfl | exact congrArg (fun b_ => Ending.returned (Value.bool b_)) HE_.out | (refine absurd HE_.out ?_; simp [*]; done) | (have h_ := HE_.out; clear HE_; simp_all; done) | (have h_ := HE_.out; clear HE_; simp_all; omega) | (simp [errW_none, errW_some] <;> rfl) | (simp [*, errW_none, errW_some] <;> rfl), by repeat (first | (with_reducible first | exact HB.out | apply below_alloc | apply pw_below_drewN | apply below_drew1) | exact HB.out)⟩
          · rw [if_neg c12] at H
            have c12b0 : (t149 == t153) = false := beq_eq_false_iff_ne.mpr c12
            have c12b1 : (t149 != t153) = true := bne_iff_ne.mpr c12
            exact absurd (Option.some.inj H) (by decide)
      · rw [if_neg c8] at H
        have c8b0 : (t150 == t152) = false := beq_eq_false_iff_ne.mpr c8
        have c8b1 : (t150 != t152) = true := bne_iff_ne.mpr c8
        have HE_ := Aside0.mk (Option.some.inj H)
        clear H
        go_enter Try.func3, Try.ntmps3
        go_wp2_with (first | ((with_reducible refine gate_callee (f := 11) rfl ?_); refine goesL_ (some 12) rfl rfl Try.func11 (by kernel_rfl) rfl #[.slice A0 l0.length c0] rfl (by (try simp only [List.map_toArray, List.map_cons, List.map_nil]); first | done | rfl | (simp only [List.length_drop, List.length_take]; rfl)) ?_; (with_reducible refine (laws_big.calls _ _ l0 false _ ?side1 ?side2 A2.out).mono ?_); (case side1 => repeat (first | exact HR0.out | (with_reducible refine Kd.C_alloc ?_ _) | (with_reducible refine Kd.C_drewN ?_ _) | (with_reducible refine Kd.C_drew ?_))); (case side2 => exact HC0.out); rintro e w' ⟨rfl, ⟨nd, rfl⟩⟩; refine ⟨_, rfl, ?_⟩) | ((with_reducible refine gate_callee (f := 12) rfl ?_); refine goesL_ (some 15) rfl rfl Try.func12 (by kernel_rfl) rfl #[.slice A0 l0.length c0] rfl (by (try simp only [List.map_toArray, List.map_cons, List.map_nil]); first | done | rfl | (simp only [List.length_drop, List.length_take]; rfl)) ?_; (with_reducible refine (spec_DrawNumSub.calls k _ _ l0 t147 t148 _ ?side1 ?side2 A4.out).mono ?_); (case side1 => repeat (first | exact HR0.out | (with_reducible refine Kd.C_alloc ?_ _) | (with_reducible refine Kd.C_drewN ?_ _) | (with_reducible refine Kd.C_drew ?_))); (case side2 => exact HC0.out); rintro e w14 ⟨rfl, hb⟩; refine ⟨_, rfl, ?_⟩; have n0_ := Aside0.mk (below_step (by repeat (first | (with_reducible first | exact HB.out | apply below_alloc | apply pw_below_drewN | apply below_drew1) | exact HB.out)) hb); clear HB; have HB := n0_; clear n0_; (try clear hb); (try clear hb2); (try clear hk); (try clear hi)) | ((with_reducible refine gate_callee (f := 13) rfl ?_); refine goesL_ (some 21) rfl rfl Try.func13 (by kernel_rfl) rfl #[.int .i64 t147, .int .i64 t148] rfl (by (try simp only [List.map_toArray, List.map_cons, List.map_nil]); first | done | rfl | (simp only [List.length_drop, List.length_take]; rfl)) ?_; (with_reducible refine (impl_NumSub.calls t147 t148 t149 t150 _ A5.out).mono ?_); rintro e w' ⟨rfl, ⟨nd, rfl⟩⟩; refine ⟨_, rfl, ?_⟩) | ((with_reducible refine gate_callee (f := 14) rfl ?_); refine goesL_ (some 27) rfl rfl Try.func14 (by kernel_rfl) rfl #[.int .i64 t147, .int .i64 t148] rfl (by (try simp only [List.map_toArray, List.map_cons, List.map_nil]); first | done | rfl | (simp only [List.length_drop, List.length_take]; rfl)) ?_; (with_reducible refine (spec_NumSub.calls t147 t148 t151 t152 _ A6.out).mono ?_); rintro e w' ⟨rfl, ⟨nd, rfl⟩⟩; refine ⟨_, rfl, ?_⟩))
        go_ret
        exact ⟨by first | rfl | exact congrArg (fun b_ => Ending.returned (Value.bool b_)) HE_.out | (refine absurd HE_.out ?_; simp [*]; done) | (have h_ := HE_.out; clear HE_; simp_all; done) | (have h_ := HE_.out; clear HE_; simp_all; omega) | (simp [errW_none, errW_some] <;> rfl) | (simp [*, errW_none, errW_some] <;> rfl), by repeat (first | (with_reducible first | exact HB.out | apply below_alloc | apply pw_below_drewN | apply below_drew1) | exact HB.out)⟩
    · rw [if_neg c7] at H
      have c7b0 : (t149 == t151) = false := beq_eq_false_iff_ne.mpr c7
      have c7b1 : (t149 != t151) = true := bne_iff_ne.mpr c7
      exact absurd (Option.some.inj H) (by decide)

end Go.Proofs.Ytblgpjllgadibaa.Q
