-- Contracts of the program's functions, each with the plain function that it computes.
import Derived.Test.YtblgpjllgadibaaQx0
import Derived.Test.YtblgpjllgadibaaQx2
import Derived.Test.YtblgpjllgadibaaQx4
import Derived.Test.YtblgpjllgadibaaQx5
import Derived.Test.YtblgpjllgadibaaQx6
import Derived.Test.YtblgpjllgadibaaQx7
import Derived.Test.YtblgpjllgadibaaQx8
namespace Go.Proofs.Ytblgpjllgadibaa.Q
open Go.RowKit Go.Proofs.YtblgpjllgadibaaW.PrintWords Go.Proofs.YtblgpjllgadibaaW.PrintLast Go.Proofs.YtblgpjllgadibaaW.PrintMore
attribute [local go_sem] max2_int min2_int max_two min_two max_three min_three max_four min_four   -- for this text's walks alone
set_option linter.unusedVariables false
set_option linter.unusedSimpArgs false

/-! ### spec_NumAdd: function 25 -/
def spec_NumAdd.f (a0 : Int) (a1 : Int) : Option (Int × Int) := if (-9223372036854775808 ≤ a0 ∧ a0 ≤ 9223372036854775807) ∧ (-9223372036854775808 ≤ a1 ∧ a1 ≤ 9223372036854775807) then some (Math.addV a0 a1) else none
set_option maxHeartbeats 1000000 in
theorem spec_NumAdd.calls (a0 : Int) (a1 : Int) (r1 : Int) (r2 : Int) (w : World) (h : spec_NumAdd.f a0 a1 = some (r1, r2)) :
    Calls Try.prog 25 #[.int .i64 a0, .int .i64 a1] w fun e w' => e = .returned (.tuple #[.int .i64 r1, .int .i64 r2]) ∧ Drawn0 w w' := by
  unfold spec_NumAdd.f at h
  split at h
  case isFalse => exact absurd h (by simp)
  rename_i hb
  obtain ⟨⟨l0, u0⟩, l1, u1⟩ := hb
  have hv := Option.some.inj h
  clear h
  by_cases p : 0 < a1
  · by_cases q : 9223372036854775807 - a1 < a0
    · have e : Math.addV a0 a1 = (0, 1) := by unfold Math.addV; rw [if_pos (by omega)]
      rw [e] at hv
      simp only [Prod.mk.injEq] at hv
      obtain ⟨rfl, rfl⟩ := hv
      clear e
      go_enter Try.func25, Try.ntmps25
      go_wp2
      go_ret2
      exact ⟨rfl, by repeat (first | exact Drawn0.refl _ | apply Drawn0.step)⟩
    · have e : Math.addV a0 a1 = (a0 + a1, 0) := by unfold Math.addV; rw [if_neg (by omega), if_neg (by omega)]
      rw [e] at hv
      simp only [Prod.mk.injEq] at hv
      obtain ⟨rfl, rfl⟩ := hv
      clear e
      go_enter Try.func25, Try.ntmps25
      go_wp2
      go_ret2
      exact ⟨rfl, by repeat (first | exact Drawn0.refl _ | apply Drawn0.step)⟩
  · by_cases p2 : a1 < 0
    · by_cases q : a0 < -9223372036854775808 - a1
      · have e : Math.addV a0 a1 = (0, -1) := by unfold Math.addV; rw [if_neg (by omega), if_pos (by omega)]
        rw [e] at hv
        simp only [Prod.mk.injEq] at hv
        obtain ⟨rfl, rfl⟩ := hv
        clear e
        go_enter Try.func25, Try.ntmps25
        go_wp2
        go_ret2
        exact ⟨rfl, by repeat (first | exact Drawn0.refl _ | apply Drawn0.step)⟩
      · have e : Math.addV a0 a1 = (a0 + a1, 0) := by unfold Math.addV; rw [if_neg (by omega), if_neg (by omega)]
        rw [e] at hv
        simp only [Prod.mk.injEq] at hv
        obtain ⟨rfl, rfl⟩ := hv
        clear e
        go_enter Try.func25, Try.ntmps25
        go_wp2
        go_ret2
        exact ⟨rfl, by repeat (first | exact Drawn0.refl _ | apply Drawn0.step)⟩
    · have z : a1 = 0 := by omega
      subst z
      clear p p2
      have e : Math.addV a0 0 = (a0, 0) := by unfold Math.addV; rw [if_neg (by omega), if_neg (by omega)]; simp
      rw [e] at hv
      simp only [Prod.mk.injEq] at hv
      obtain ⟨rfl, rfl⟩ := hv
      clear e
      go_enter Try.func25, Try.ntmps25
      go_wp2
      go_ret2
      exact ⟨rfl, by repeat (first | exact Drawn0.refl _ | apply Drawn0.step)⟩

/-! ### laws_FnNumAdd: function 6 -/
def laws_FnNumAdd.j0 : Nat → Int → Int → Int → Int → Bool → Option (Bool)
  | 0, _, _, _, _, _ => none
  | k + 1, x3, x4, x5, x6, x106 => if x106 = true then (some false) else (if x6 = 0 then ((impl_NumSub.f x5 x4).bind fun bt210 => (if bt210.2 = 0 then (some (bt210.1 == x3)) else (some false))) else (if x5 = 0 then (some ((decide (x6 > 0)) == (decide (x3 > 0)))) else (some false)))
def laws_FnNumAdd.f (k : Nat) (l0 : List Int) : Option (Bool) := (laws_big.f l0).bind fun t193 => (if t193 = true then (some true) else ((spec_DrawNumAdd.f k l0).bind fun bt194 => ((impl_NumAdd.f bt194.1 bt194.2).bind fun bt196 => ((spec_NumAdd.f bt194.1 bt194.2).bind fun bt198 => ((impl_NumAdd.f bt194.2 bt194.1).bind fun bt200 => ((spec_DrawNumMul.f k l0).bind fun bt202 => ((impl_NumMul.f bt202.1 bt202.2).bind fun bt204 => ((impl_NumMul.f bt202.2 bt202.1).bind fun bt206 => ((spec_NumMul.f bt202.1 bt202.2).bind fun bt208 => (if bt196.1 = bt198.1 then (if bt196.2 = bt198.2 then (if bt196.1 = bt200.1 then (if bt196.2 = bt200.2 then (if bt204.1 = bt206.1 then (if bt204.2 = bt206.2 then (if bt204.1 = bt208.1 then (laws_FnNumAdd.j0 k bt194.1 bt194.2 bt196.1 bt196.2 (bt204.2 != bt208.2)) else (laws_FnNumAdd.j0 k bt194.1 bt194.2 bt196.1 bt196.2 true)) else (laws_FnNumAdd.j0 k bt194.1 bt194.2 bt196.1 bt196.2 true)) else (laws_FnNumAdd.j0 k bt194.1 bt194.2 bt196.1 bt196.2 true)) else (laws_FnNumAdd.j0 k bt194.1 bt194.2 bt196.1 bt196.2 true)) else (laws_FnNumAdd.j0 k bt194.1 bt194.2 bt196.1 bt196.2 true)) else (laws_FnNumAdd.j0 k bt194.1 bt194.2 bt196.1 bt196.2 true)) else (laws_FnNumAdd.j0 k bt194.1 bt194.2 bt196.1 bt196.2 true)))))))))))
theorem laws_FnNumAdd.mono_l : ∀ k, (∀ y0 y1 y2 y3 y4, LeO (laws_FnNumAdd.j0 k y0 y1 y2 y3 y4) (laws_FnNumAdd.j0 (k + 1) y0 y1 y2 y3 y4))
  | 0 => fun _ _ _ _ _ r h => by simp [laws_FnNumAdd.j0] at h
  | k + 1 => by
    have ih0 := laws_FnNumAdd.mono_l k
    · intro y0 y1 y2 y3 y4
      unfold laws_FnNumAdd.j0
      repeat' first
      | (with_reducible exact ih0 _ _ _ _ _)
      | (with_reducible exact spec_DrawNumAdd.mono _ _)
      | (with_reducible exact spec_DrawNumMul.mono _ _)
      | (with_reducible exact LeO.refl _)
      | (with_reducible exact LeO.none _)
      | (with_reducible refine LeO.ite ?_ ?_)
      | (with_reducible refine LeO.bind ?_ (fun _ => ?_))
      | exact ih0 _ _ _ _ _
      | exact spec_DrawNumAdd.mono _ _
      | exact spec_DrawNumMul.mono _ _
      | exact LeO.none _
      | refine LeO.ite ?_ ?_
      | refine LeO.bind ?_ (fun _ => ?_)
theorem laws_FnNumAdd.mono : ∀ a0 k, LeO (laws_FnNumAdd.f k a0) (laws_FnNumAdd.f (k + 1) a0) := by
  intro a0 k
  have ih0 := laws_FnNumAdd.mono_l k
  unfold laws_FnNumAdd.f
  repeat' first
      | (with_reducible exact ih0 _ _ _ _ _)
      | (with_reducible exact spec_DrawNumAdd.mono _ _)
      | (with_reducible exact spec_DrawNumMul.mono _ _)
      | (with_reducible exact LeO.refl _)
      | (with_reducible exact LeO.none _)
      | (with_reducible refine LeO.ite ?_ ?_)
      | (with_reducible refine LeO.bind ?_ (fun _ => ?_))
      | exact ih0 _ _ _ _ _
      | exact spec_DrawNumAdd.mono _ _
      | exact spec_DrawNumMul.mono _ _
      | exact LeO.none _
      | refine LeO.ite ?_ ?_
      | refine LeO.bind ?_ (fun _ => ?_)
set_option maxHeartbeats 8000000 in
set_option maxRecDepth 100000 in
theorem laws_FnNumAdd.calls (k : Nat) (A0 : Option Addr) (c0 : Nat) (l0 : List Int) (w : World) (hr0 : Kd.C (Kd.int .u8) w A0 l0.length l0) (hc0 : l0.length ≤ c0) (h : laws_FnNumAdd.f k l0 = some true) :
    Calls Try.prog 6 #[.slice A0 l0.length c0] w fun e w' => e = .returned (.bool true) ∧ Below w.heap.size w w' := by
  have HR0 := Aside0.mk hr0
  have HC0 := Aside0.mk hc0
  clear hr0 hc0
  have HB := Aside0.mk (Below.refl w.heap.size w)
  have H : ((laws_big.f l0).bind fun t193 => (if t193 = true then (some true) else ((spec_DrawNumAdd.f k l0).bind fun bt194 => ((impl_NumAdd.f bt194.1 bt194.2).bind fun bt196 => ((spec_NumAdd.f bt194.1 bt194.2).bind fun bt198 => ((impl_NumAdd.f bt194.2 bt194.1).bind fun bt200 => ((spec_DrawNumMul.f k l0).bind fun bt202 => ((impl_NumMul.f bt202.1 bt202.2).bind fun bt204 => ((impl_NumMul.f bt202.2 bt202.1).bind fun bt206 => ((spec_NumMul.f bt202.1 bt202.2).bind fun bt208 => (if bt196.1 = bt198.1 then (if bt196.2 = bt198.2 then (if bt196.1 = bt200.1 then (if bt196.2 = bt200.2 then (if bt204.1 = bt206.1 then (if bt204.2 = bt206.2 then (if bt204.1 = bt208.1 then (laws_FnNumAdd.j0 k bt194.1 bt194.2 bt196.1 bt196.2 (bt204.2 != bt208.2)) else (laws_FnNumAdd.j0 k bt194.1 bt194.2 bt196.1 bt196.2 true)) else (laws_FnNumAdd.j0 k bt194.1 bt194.2 bt196.1 bt196.2 true)) else (laws_FnNumAdd.j0 k bt194.1 bt194.2 bt196.1 bt196.2 true)) else (laws_FnNumAdd.j0 k bt194.1 bt194.2 bt196.1 bt196.2 true)) else (laws_FnNumAdd.j0 k bt194.1 bt194.2 bt196.1 bt196.2 true)) else (laws_FnNumAdd.j0 k bt194.1 bt194.2 bt196.1 bt196.2 true)) else (laws_FnNumAdd.j0 k bt194.1 bt194.2 bt196.1 bt196.2 true)))))))))))) = some true := h
  clear h
  replace H := Option.bind_eq_some_iff.mp H
  obtain ⟨t193, A20, H⟩ := H
  replace H : (if t193 = true then (some true) else ((spec_DrawNumAdd.f k l0).bind fun bt194 => ((impl_NumAdd.f bt194.1 bt194.2).bind fun bt196 => ((spec_NumAdd.f bt194.1 bt194.2).bind fun bt198 => ((impl_NumAdd.f bt194.2 bt194.1).bind fun bt200 => ((spec_DrawNumMul.f k l0).bind fun bt202 => ((impl_NumMul.f bt202.1 bt202.2).bind fun bt204 => ((impl_NumMul.f bt202.2 bt202.1).bind fun bt206 => ((spec_NumMul.f bt202.1 bt202.2).bind fun bt208 => (if bt196.1 = bt198.1 then (if bt196.2 = bt198.2 then (if bt196.1 = bt200.1 then (if bt196.2 = bt200.2 then (if bt204.1 = bt206.1 then (if bt204.2 = bt206.2 then (if bt204.1 = bt208.1 then (laws_FnNumAdd.j0 k bt194.1 bt194.2 bt196.1 bt196.2 (bt204.2 != bt208.2)) else (laws_FnNumAdd.j0 k bt194.1 bt194.2 bt196.1 bt196.2 true)) else (laws_FnNumAdd.j0 k bt194.1 bt194.2 bt196.1 bt196.2 true)) else (laws_FnNumAdd.j0 k bt194.1 bt194.2 bt196.1 bt196.2 true)) else (laws_FnNumAdd.j0 k bt194.1 bt194.2 bt196.1 bt196.2 true)) else (laws_FnNumAdd.j0 k bt194.1 bt194.2 bt196.1 bt196.2 true)) else (laws_FnNumAdd.j0 k bt194.1 bt194.2 bt196.1 bt196.2 true)) else (laws_FnNumAdd.j0 k bt194.1 bt194.2 bt196.1 bt196.2 true))))))))))) = some true := H
  have A2 := Aside0.mk A20
  clear A20
  by_cases c3 : t193 = true
  · subst c3
    have H1 : (some true) = some true := by rw [if_pos rfl] at H; first | done | exact H
    clear H
    have H := H1
    clear H1
    have HE_ := Aside0.mk (Option.some.inj H)
    clear H
    go_enter Try.func6, Try.ntmps6
    go_wp2_with (first | ((with_reducible refine gate_callee (f := 11) rfl ?_); refine goesL_ (some 22) rfl rfl Try.func11 (by kernel_rfl) rfl #[.slice A0 l0.length c0] rfl (by (try simp only [List.map_toArray, List.map_cons, List.map_nil]); first | done | rfl | (simp only [List.length_drop, List.length_take]; rfl)) ?_; (with_reducible refine (laws_big.calls _ _ l0 true _ ?side1 ?side2 A2.out).mono ?_); (case side1 => repeat (first | exact HR0.out | (with_reducible refine Kd.C_alloc ?_ _) | (with_reducible refine Kd.C_drewN ?_ _) | (with_reducible refine Kd.C_drew ?_))); (case side2 => exact HC0.out); rintro e w' ⟨rfl, ⟨nd, rfl⟩⟩; refine ⟨_, rfl, ?_⟩))
    go_ret
    exact ⟨by first | rfl | exact congrArg (fun b_ => Ending.returned (Value.bool b_)) HE_.out | (refine absurd HE_.out ?_; simp [*]; done) | (have h_ := HE_.out; clear HE_; simp_all; done) | (have h_ := HE_.out; clear HE_; simp_all; omega) | (simp [errW_none, errW_some] <;> rfl) | (simp [*, errW_none, errW_some] <;> rfl), by repeat (first | (with_reducible first | exact HB.out | apply below_alloc | apply pw_below_drewN | apply below_drew1) | exact HB.out)⟩
  · replace c3 := Bool.eq_false_iff.mpr c3
    subst c3
    have H1 : ((spec_DrawNumAdd.f k l0).bind fun bt194 => ((impl_NumAdd.f bt194.1 bt194.2).bind fun bt196 => ((spec_NumAdd.f bt194.1 bt194.2).bind fun bt198 => ((impl_NumAdd.f bt194.2 bt194.1).bind fun bt200 => ((spec_DrawNumMul.f k l0).bind fun bt202 => ((impl_NumMul.f bt202.1 bt202.2).bind fun bt204 => ((impl_NumMul.f bt202.2 bt202.1).bind fun bt206 => ((spec_NumMul.f bt202.1 bt202.2).bind fun bt208 => (if bt196.1 = bt198.1 then (if bt196.2 = bt198.2 then (if bt196.1 = bt200.1 then (if bt196.2 = bt200.2 then (if bt204.1 = bt206.1 then (if bt204.2 = bt206.2 then (if bt204.1 = bt208.1 then (laws_FnNumAdd.j0 k bt194.1 bt194.2 bt196.1 bt196.2 (bt204.2 != bt208.2)) else (laws_FnNumAdd.j0 k bt194.1 bt194.2 bt196.1 bt196.2 true)) else (laws_FnNumAdd.j0 k bt194.1 bt194.2 bt196.1 bt196.2 true)) else (laws_FnNumAdd.j0 k bt194.1 bt194.2 bt196.1 bt196.2 true)) else (laws_FnNumAdd.j0 k bt194.1 bt194.2 bt196.1 bt196.2 true)) else (laws_FnNumAdd.j0 k bt194.1 bt194.2 bt196.1 bt196.2 true)) else (laws_FnNumAdd.j0 k bt194.1 bt194.2 bt196.1 bt196.2 true)) else (laws_FnNumAdd.j0 k bt194.1 bt194.2 bt196.1 bt196.2 true)))))))))) = some true := by rw [if_neg (show ¬ (false = true) by decide)] at H; first | done | exact H
    clear H
    have H := H1
    clear H1
    replace H := Option.bind_eq_some_iff.mp H
    obtain ⟨⟨t194, t195⟩, A40, H⟩ := H
    replace H : ((impl_NumAdd.f t194 t195).bind fun bt196 => ((spec_NumAdd.f t194 t195).bind fun bt198 => ((impl_NumAdd.f t195 t194).bind fun bt200 => ((spec_DrawNumMul.f k l0).bind fun bt202 => ((impl_NumMul.f bt202.1 bt202.2).bind fun bt204 => ((impl_NumMul.f bt202.2 bt202.1).bind fun bt206 => ((spec_NumMul.f bt202.1 bt202.2).bind fun bt208 => (if bt196.1 = bt198.1 then (if bt196.2 = bt198.2 then (if bt196.1 = bt200.1 then (if bt196.2 = bt200.2 then (if bt204.1 = bt206.1 then (if bt204.2 = bt206.2 then (if bt204.1 = bt208.1 then (laws_FnNumAdd.j0 k t194 t195 bt196.1 bt196.2 (bt204.2 != bt208.2)) else (laws_FnNumAdd.j0 k t194 t195 bt196.1 bt196.2 true)) else (laws_FnNumAdd.j0 k t194 t195 bt196.1 bt196.2 true)) else (laws_FnNumAdd.j0 k t194 t195 bt196.1 bt196.2 true)) else (laws_FnNumAdd.j0 k t194 t195 bt196.1 bt196.2 true)) else (laws_FnNumAdd.j0 k t194 t195 bt196.1 bt196.2 true)) else (laws_FnNumAdd.j0 k t194 t195 bt196.1 bt196.2 true)) else (laws_FnNumAdd.j0 k t194 t195 bt196.1 bt196.2 true))))))))) = some true := H
    have A4 := Aside0.mk A40
    clear A40
    replace H := Option.bind_eq_some_iff.mp H
    obtain ⟨⟨t196, t197⟩, A50, H⟩ := H
    replace H : ((spec_NumAdd.f t194 t195).bind fun bt198 => ((impl_NumAdd.f t195 t194).bind fun bt200 => ((spec_DrawNumMul.f k l0).bind fun bt202 => ((impl_NumMul.f bt202.1 bt202.2).bind fun bt204 => ((impl_NumMul.f bt202.2 bt202.1).bind fun bt206 => ((spec_NumMul.f bt202.1 bt202.2).bind fun bt208 => (if t196 = bt198.1 then (if t197 = bt198.2 then (if t196 = bt200.1 then (if t197 = bt200.2 then (if bt204.1 = bt206.1 then (if bt204.2 = bt206.2 then (if bt204.1 = bt208.1 then (laws_FnNumAdd.j0 k t194 t195 t196 t197 (bt204.2 != bt208.2)) else (laws_FnNumAdd.j0 k t194 t195 t196 t197 true)) else (laws_FnNumAdd.j0 k t194 t195 t196 t197 true)) else (laws_FnNumAdd.j0 k t194 t195 t196 t197 true)) else (laws_FnNumAdd.j0 k t194 t195 t196 t197 true)) else (laws_FnNumAdd.j0 k t194 t195 t196 t197 true)) else (laws_FnNumAdd.j0 k t194 t195 t196 t197 true)) else (laws_FnNumAdd.j0 k t194 t195 t196 t197 true)))))))) = some true := H
    have A5 := Aside0.mk A50
    clear A50
    replace H := Option.bind_eq_some_iff.mp H
    obtain ⟨⟨t198, t199⟩, A60, H⟩ := H
    replace H : ((impl_NumAdd.f t195 t194).bind fun bt200 => ((spec_DrawNumMul.f k l0).bind fun bt202 => ((impl_NumMul.f bt202.1 bt202.2).bind fun bt204 => ((impl_NumMul.f bt202.2 bt202.1).bind fun bt206 => ((spec_NumMul.f bt202.1 bt202.2).bind fun bt208 => (if t196 = t198 then (if t197 = t199 then (if t196 = bt200.1 then (if t197 = bt200.2 then (if bt204.1 = bt206.1 then (if bt204.2 = bt206.2 then (if bt204.1 = bt208.1 then (laws_FnNumAdd.j0 k t194 t195 t196 t197 (bt204.2 != bt208.2)) else (laws_FnNumAdd.j0 k t194 t195 t196 t197 true)) else (laws_FnNumAdd.j0 k t194 t195 t196 t197 true)) else (laws_FnNumAdd.j0 k t194 t195 t196 t197 true)) else (laws_FnNumAdd.j0 k t194 t195 t196 t197 true)) else (laws_FnNumAdd.j0 k t194 t195 t196 t197 true)) else (laws_FnNumAdd.j0 k t194 t195 t196 t197 true)) else (laws_FnNumAdd.j0 k t194 t195 t196 t197 true))))))) = some true := H
    have A6 := Aside0.mk A60
    clear A60
    replace H := Option.bind_eq_some_iff.mp H
    obtain ⟨⟨t200, t201⟩, A70, H⟩ := H
    replace H : ((spec_DrawNumMul.f k l0).bind fun bt202 => ((impl_NumMul.f bt202.1 bt202.2).bind fun bt204 => ((impl_NumMul.f bt202.2 bt202.1).bind fun bt206 => ((spec_NumMul.f bt202.1 bt202.2).bind fun bt208 => (if t196 = t198 then (if t197 = t199 then (if t196 = t200 then (if t197 = t201 then (if bt204.1 = bt206.1 then (if bt204.2 = bt206.2 then (if bt204.1 = bt208.1 then (laws_FnNumAdd.j0 k t194 t195 t196 t197 (bt204.2 != bt208.2)) else (laws_FnNumAdd.j0 k t194 t195 t196 t197 true)) else (laws_FnNumAdd.j0 k t194 t195 t196 t197 true)) else (laws_FnNumAdd.j0 k t194 t195 t196 t197 true)) else (laws_FnNumAdd.j0 k t194 t195 t196 t197 true)) else (laws_FnNumAdd.j0 k t194 t195 t196 t197 true)) else (laws_FnNumAdd.j0 k t194 t195 t196 t197 true)) else (laws_FnNumAdd.j0 k t194 t195 t196 t197 true)))))) = some true := H
    have A7 := Aside0.mk A70
    clear A70
    replace H := Option.bind_eq_some_iff.mp H
    obtain ⟨⟨t202, t203⟩, A80, H⟩ := H
    replace H : ((impl_NumMul.f t202 t203).bind fun bt204 => ((impl_NumMul.f t203 t202).bind fun bt206 => ((spec_NumMul.f t202 t203).bind fun bt208 => (if t196 = t198 then (if t197 = t199 then (if t196 = t200 then (if t197 = t201 then (if bt204.1 = bt206.1 then (if bt204.2 = bt206.2 then (if bt204.1 = bt208.1 then (laws_FnNumAdd.j0 k t194 t195 t196 t197 (bt204.2 != bt208.2)) else (laws_FnNumAdd.j0 k t194 t195 t196 t197 true)) else (laws_FnNumAdd.j0 k t194 t195 t196 t197 true)) else (laws_FnNumAdd.j0 k t194 t195 t196 t197 true)) else (laws_FnNumAdd.j0 k t194 t195 t196 t197 true)) else (laws_FnNumAdd.j0 k t194 t195 t196 t197 true)) else (laws_FnNumAdd.j0 k t194 t195 t196 t197 true)) else (laws_FnNumAdd.j0 k t194 t195 t196 t197 true))))) = some true := H
    have A8 := Aside0.mk A80
    clear A80
    replace H := Option.bind_eq_some_iff.mp H
    obtain ⟨⟨t204, t205⟩, A90, H⟩ := H
    replace H : ((impl_NumMul.f t203 t202).bind fun bt206 => ((spec_NumMul.f t202 t203).bind fun bt208 => (if t196 = t198 then (if t197 = t199 then (if t196 = t200 then (if t197 = t201 then (if t204 = bt206.1 then (if t205 = bt206.2 then (if t204 = bt208.1 then (laws_FnNumAdd.j0 k t194 t195 t196 t197 (t205 != bt208.2)) else (laws_FnNumAdd.j0 k t194 t195 t196 t197 true)) else (laws_FnNumAdd.j0 k t194 t195 t196 t197 true)) else (laws_FnNumAdd.j0 k t194 t195 t196 t197 true)) else (laws_FnNumAdd.j0 k t194 t195 t196 t197 true)) else (laws_FnNumAdd.j0 k t194 t195 t196 t197 true)) else (laws_FnNumAdd.j0 k t194 t195 t196 t197 true)) else (laws_FnNumAdd.j0 k t194 t195 t196 t197 true)))) = some true := H
    have A9 := Aside0.mk A90
    clear A90
    replace H := Option.bind_eq_some_iff.mp H
    obtain ⟨⟨t206, t207⟩, A100, H⟩ := H
    replace H : ((spec_NumMul.f t202 t203).bind fun bt208 => (if t196 = t198 then (if t197 = t199 then (if t196 = t200 then (if t197 = t201 then (if t204 = t206 then (if t205 = t207 then (if t204 = bt208.1 then (laws_FnNumAdd.j0 k t194 t195 t196 t197 (t205 != bt208.2)) else (laws_FnNumAdd.j0 k t194 t195 t196 t197 true)) else (laws_FnNumAdd.j0 k t194 t195 t196 t197 true)) else (laws_FnNumAdd.j0 k t194 t195 t196 t197 true)) else (laws_FnNumAdd.j0 k t194 t195 t196 t197 true)) else (laws_FnNumAdd.j0 k t194 t195 t196 t197 true)) else (laws_FnNumAdd.j0 k t194 t195 t196 t197 true)) else (laws_FnNumAdd.j0 k t194 t195 t196 t197 true))) = some true := H
    have A10 := Aside0.mk A100
    clear A100
    replace H := Option.bind_eq_some_iff.mp H
    obtain ⟨⟨t208, t209⟩, A110, H⟩ := H
    replace H : (if t196 = t198 then (if t197 = t199 then (if t196 = t200 then (if t197 = t201 then (if t204 = t206 then (if t205 = t207 then (if t204 = t208 then (laws_FnNumAdd.j0 k t194 t195 t196 t197 (t205 != t209)) else (laws_FnNumAdd.j0 k t194 t195 t196 t197 true)) else (laws_FnNumAdd.j0 k t194 t195 t196 t197 true)) else (laws_FnNumAdd.j0 k t194 t195 t196 t197 true)) else (laws_FnNumAdd.j0 k t194 t195 t196 t197 true)) else (laws_FnNumAdd.j0 k t194 t195 t196 t197 true)) else (laws_FnNumAdd.j0 k t194 t195 t196 t197 true)) else (laws_FnNumAdd.j0 k t194 t195 t196 t197 true)) = some true := H
    have A11 := Aside0.mk A110
    clear A110
    have HC12 := Aside0.mk H
    clear H
    go_enter Try.func6, Try.ntmps6
    go_upto_region 11 with (first | ((with_reducible refine gate_callee (f := 11) rfl ?_); refine goesL_ (some 22) rfl rfl Try.func11 (by kernel_rfl) rfl #[.slice A0 l0.length c0] rfl (by (try simp only [List.map_toArray, List.map_cons, List.map_nil]); first | done | rfl | (simp only [List.length_drop, List.length_take]; rfl)) ?_; (with_reducible refine (laws_big.calls _ _ l0 false _ ?side1 ?side2 A2.out).mono ?_); (case side1 => repeat (first | exact HR0.out | (with_reducible refine Kd.C_alloc ?_ _) | (with_reducible refine Kd.C_drewN ?_ _) | (with_reducible refine Kd.C_drew ?_))); (case side2 => exact HC0.out); rintro e w' ⟨rfl, ⟨nd, rfl⟩⟩; refine ⟨_, rfl, ?_⟩) | ((with_reducible refine gate_callee (f := 24) rfl ?_); refine goesL_ (some 25) rfl rfl Try.func24 (by kernel_rfl) rfl #[.slice A0 l0.length c0] rfl (by (try simp only [List.map_toArray, List.map_cons, List.map_nil]); first | done | rfl | (simp only [List.length_drop, List.length_take]; rfl)) ?_; (with_reducible refine (spec_DrawNumAdd.calls k _ _ l0 t194 t195 _ ?side1 ?side2 A4.out).mono ?_); (case side1 => repeat (first | exact HR0.out | (with_reducible refine Kd.C_alloc ?_ _) | (with_reducible refine Kd.C_drewN ?_ _) | (with_reducible refine Kd.C_drew ?_))); (case side2 => exact HC0.out); rintro e w13 ⟨rfl, hb⟩; refine ⟨_, rfl, ?_⟩; have n0_ := Aside0.mk (below_step (by repeat (first | (with_reducible first | exact HB.out | apply below_alloc | apply pw_below_drewN | apply below_drew1) | exact HB.out)) hb); clear HB; have HB := n0_; clear n0_; (try clear hb); (try clear hb2); (try clear hk); (try clear hi)) | ((with_reducible refine gate_callee (f := 15) rfl ?_); refine goesL_ (some 31) rfl rfl Try.func15 (by kernel_rfl) rfl #[.int .i64 t194, .int .i64 t195] rfl (by (try simp only [List.map_toArray, List.map_cons, List.map_nil]); first | done | rfl | (simp only [List.length_drop, List.length_take]; rfl)) ?_; (with_reducible refine (impl_NumAdd.calls t194 t195 t196 t197 _ A5.out).mono ?_); rintro e w' ⟨rfl, ⟨nd, rfl⟩⟩; refine ⟨_, rfl, ?_⟩) | ((with_reducible refine gate_callee (f := 25) rfl ?_); refine goesL_ (some 37) rfl rfl Try.func25 (by kernel_rfl) rfl #[.int .i64 t194, .int .i64 t195] rfl (by (try simp only [List.map_toArray, List.map_cons, List.map_nil]); first | done | rfl | (simp only [List.length_drop, List.length_take]; rfl)) ?_; (with_reducible refine (spec_NumAdd.calls t194 t195 t198 t199 _ A6.out).mono ?_); rintro e w' ⟨rfl, ⟨nd, rfl⟩⟩; refine ⟨_, rfl, ?_⟩) | ((with_reducible refine gate_callee (f := 15) rfl ?_); refine goesL_ (some 43) rfl rfl Try.func15 (by kernel_rfl) rfl #[.int .i64 t195, .int .i64 t194] rfl (by (try simp only [List.map_toArray, List.map_cons, List.map_nil]); first | done | rfl | (simp only [List.length_drop, List.length_take]; rfl)) ?_; (with_reducible refine (impl_NumAdd.calls t195 t194 t200 t201 _ A7.out).mono ?_); rintro e w' ⟨rfl, ⟨nd, rfl⟩⟩; refine ⟨_, rfl, ?_⟩) | ((with_reducible refine gate_callee (f := 16) rfl ?_); refine goesL_ (some 48) rfl rfl Try.func16 (by kernel_rfl) rfl #[.slice A0 l0.length c0] rfl (by (try simp only [List.map_toArray, List.map_cons, List.map_nil]); first | done | rfl | (simp only [List.length_drop, List.length_take]; rfl)) ?_; (with_reducible refine (spec_DrawNumMul.calls k _ _ l0 t202 t203 _ ?side1 ?side2 A8.out).mono ?_); (case side1 => repeat (first | exact (Kd.C_below HR0.out (by repeat (first | (with_reducible first | exact HB.out | apply below_alloc | apply pw_below_drewN | apply below_drew1) | exact HB.out))) | (with_reducible refine Kd.C_alloc ?_ _) | (with_reducible refine Kd.C_drewN ?_ _) | (with_reducible refine Kd.C_drew ?_))); (case side2 => exact HC0.out); rintro e w14 ⟨rfl, hb⟩; refine ⟨_, rfl, ?_⟩; have n0_ := Aside0.mk (below_step (by repeat (first | (with_reducible first | exact HB.out | apply below_alloc | apply pw_below_drewN | apply below_drew1) | exact HB.out)) hb); clear HB; have HB := n0_; clear n0_; (try clear hb); (try clear hb2); (try clear hk); (try clear hi)) | ((with_reducible refine gate_callee (f := 17) rfl ?_); refine goesL_ (some 54) rfl rfl Try.func17 (by kernel_rfl) rfl #[.int .i64 t202, .int .i64 t203] rfl (by (try simp only [List.map_toArray, List.map_cons, List.map_nil]); first | done | rfl | (simp only [List.length_drop, List.length_take]; rfl)) ?_; (with_reducible refine (impl_NumMul.calls t202 t203 t204 t205 _ A9.out).mono ?_); rintro e w' ⟨rfl, ⟨nd, rfl⟩⟩; refine ⟨_, rfl, ?_⟩) | ((with_reducible refine gate_callee (f := 17) rfl ?_); refine goesL_ (some 60) rfl rfl Try.func17 (by kernel_rfl) rfl #[.int .i64 t203, .int .i64 t202] rfl (by (try simp only [List.map_toArray, List.map_cons, List.map_nil]); first | done | rfl | (simp only [List.length_drop, List.length_take]; rfl)) ?_; (with_reducible refine (impl_NumMul.calls t203 t202 t206 t207 _ A10.out).mono ?_); rintro e w' ⟨rfl, ⟨nd, rfl⟩⟩; refine ⟨_, rfl, ?_⟩) | ((with_reducible refine gate_callee (f := 18) rfl ?_); refine goesL_ (some 66) rfl rfl Try.func18 (by kernel_rfl) rfl #[.int .i64 t202, .int .i64 t203] rfl (by (try simp only [List.map_toArray, List.map_cons, List.map_nil]); first | done | rfl | (simp only [List.length_drop, List.length_take]; rfl)) ?_; (with_reducible refine (spec_NumMul.calls t202 t203 t208 t209 _ A11.out).mono ?_); rintro e w' ⟨rfl, ⟨nd, rfl⟩⟩; refine ⟨_, rfl, ?_⟩))
    (try simp only [Act.put, List.setIfInBounds_toArray, List.set_cons_zero, List.set_cons_succ])
    go_cut [106] (fun v106 wc => ∃ (kq : Nat) (x106_11 : Bool), v106 = .bool x106_11 ∧ Aside0 (laws_FnNumAdd.j0 kq t194 t195 t196 t197 x106_11 = some true) ∧ Aside0 (kq ≤ k) ∧ Aside0 (Below w.heap.size w wc))
    case first =>
      have H := HC12.out
      clear HC12
      by_cases c15 : t196 = t198
      · rw [if_pos c15] at H
        have c15b0 : (t196 == t198) = true := beq_iff_eq.mpr c15
        have c15b1 : (t196 != t198) = false := bne_eq_false_iff_eq.mpr c15
        clear c15
        (first | rw [c15b0] | (simp only [i64_w, i32_w]; rw [c15b0]) | skip)
        by_cases c16 : t197 = t199
        · rw [if_pos c16] at H
          have c16b0 : (t197 == t199) = true := beq_iff_eq.mpr c16
          have c16b1 : (t197 != t199) = false := bne_eq_false_iff_eq.mpr c16
          clear c16
          by_cases c17 : t196 = t200
          · rw [if_pos c17] at H
            have c17b0 : (t196 == t200) = true := beq_iff_eq.mpr c17
            have c17b1 : (t196 != t200) = false := bne_eq_false_iff_eq.mpr c17
            clear c17
            by_cases c18 : t197 = t201
            · rw [if_pos c18] at H
              have c18b0 : (t197 == t201) = true := beq_iff_eq.mpr c18
              have c18b1 : (t197 != t201) = false := bne_eq_false_iff_eq.mpr c18
              clear c18
              by_cases c19 : t204 = t206
              · rw [if_pos c19] at H
                have c19b0 : (t204 == t206) = true := beq_iff_eq.mpr c19
                have c19b1 : (t204 != t206) = false := bne_eq_false_iff_eq.mpr c19
                clear c19
                by_cases c20 : t205 = t207
                · rw [if_pos c20] at H
                  have c20b0 : (t205 == t207) = true := beq_iff_eq.mpr c20
                  have c20b1 : (t205 != t207) = false := bne_eq_false_iff_eq.mpr c20
                  clear c20
                  by_cases c21 : t204 = t208
                  · rw [if_pos c21] at H
                    have c21b0 : (t204 == t208) = true := beq_iff_eq.mpr c21
                    have c21b1 : (t204 != t208) = false := bne_eq_false_iff_eq.mpr c21
                    clear c21
                    have H' := Aside0.mk H
                    clear H
                    go_wp2
                    go_meet
                    case rel => exact ⟨_, ((t205 != t209)), (by first | rfl | (simp; done) | (simp [*]; done)), H', ⟨by first | omega | exact Nat.le_refl _⟩, ⟨by repeat (first | (with_reducible first | exact HB.out | apply below_alloc | apply pw_below_drewN | apply below_drew1) | exact HB.out)⟩⟩
                  · rw [if_neg c21] at H
                    have c21b0 : (t204 == t208) = false := beq_eq_false_iff_ne.mpr c21
                    have c21b1 : (t204 != t208) = true := bne_iff_ne.mpr c21
                    have H' := Aside0.mk H
                    clear H
                    go_wp2
                    go_meet
                    case rel => exact ⟨_, (true), (by first | rfl | (simp; done) | (simp [*]; done)), H', ⟨by first | omega | exact Nat.le_refl _⟩, ⟨by repeat (first | (with_reducible first | exact HB.out | apply below_alloc | apply pw_below_drewN | apply below_drew1) | exact HB.out)⟩⟩
                · rw [if_neg c20] at H
                  have c20b0 : (t205 == t207) = false := beq_eq_false_iff_ne.mpr c20
                  have c20b1 : (t205 != t207) = true := bne_iff_ne.mpr c20
                  have H' := Aside0.mk H
                  clear H
                  go_wp2
                  go_meet
                  case rel => exact ⟨_, (true), (by first | rfl | (simp; done) | (simp [*]; done)), H', ⟨by first | omega | exact Nat.le_refl _⟩, ⟨by repeat (first | (with_reducible first | exact HB.out | apply below_alloc | apply pw_below_drewN | apply below_drew1) | exact HB.out)⟩⟩
              · rw [if_neg c19] at H
                have c19b0 : (t204 == t206) = false := beq_eq_false_iff_ne.mpr c19
                have c19b1 : (t204 != t206) = true := bne_iff_ne.mpr c19
                have H' := Aside0.mk H
                clear H
                go_wp2
                go_meet
                case rel => exact ⟨_, (true), (by first | rfl | (simp; done) | (simp [*]; done)), H', ⟨by first | omega | exact Nat.le_refl _⟩, ⟨by repeat (first | (with_reducible first | exact HB.out | apply below_alloc | apply pw_below_drewN | apply below_drew1) | exact HB.out)⟩⟩
            · rw [if_neg c18] at H
              have c18b0 : (t197 == t201) = false := beq_eq_false_iff_ne.mpr c18
              have c18b1 : (t197 != t201) = true := bne_iff_ne.mpr c18
              have H' := Aside0.mk H
              clear H
              go_wp2
              go_meet
              case rel => exact ⟨_, (true), (by first | rfl | (simp; done) | (simp [*]; done)), H', ⟨by first | omega | exact Nat.le_refl _⟩, ⟨by repeat (first | (with_reducible first | exact HB.out | apply below_alloc | apply pw_below_drewN | apply below_drew1) | exact HB.out)⟩⟩
          · rw [if_neg c17] at H
            have c17b0 : (t196 == t200) = false := beq_eq_false_iff_ne.mpr c17
            have c17b1 : (t196 != t200) = true := bne_iff_ne.mpr c17
            have H' := Aside0.mk H
            clear H
            go_wp2
            go_meet
            case rel => exact ⟨_, (true), (by first | rfl | (simp; done) | (simp [*]; done)), H', ⟨by first | omega | exact Nat.le_refl _⟩, ⟨by repeat (first | (with_reducible first | exact HB.out | apply below_alloc | apply pw_below_drewN | apply below_drew1) | exact HB.out)⟩⟩
        · rw [if_neg c16] at H
          have c16b0 : (t197 == t199) = false := beq_eq_false_iff_ne.mpr c16
          have c16b1 : (t197 != t199) = true := bne_iff_ne.mpr c16
          have H' := Aside0.mk H
          clear H
          go_wp2
          go_meet
          case rel => exact ⟨_, (true), (by first | rfl | (simp; done) | (simp [*]; done)), H', ⟨by first | omega | exact Nat.le_refl _⟩, ⟨by repeat (first | (with_reducible first | exact HB.out | apply below_alloc | apply pw_below_drewN | apply below_drew1) | exact HB.out)⟩⟩
      · rw [if_neg c15] at H
        have c15b0 : (t196 == t198) = false := beq_eq_false_iff_ne.mpr c15
        have c15b1 : (t196 != t198) = true := bne_iff_ne.mpr c15
        (first | rw [c15b0] | (simp only [i64_w, i32_w]; rw [c15b0]) | skip)
        have H' := Aside0.mk H
        clear H
        go_wp2
        go_meet
        case rel => exact ⟨_, (true), (by first | rfl | (simp; done) | (simp [*]; done)), H', ⟨by first | omega | exact Nat.le_refl _⟩, ⟨by repeat (first | (with_reducible first | exact HB.out | apply below_alloc | apply pw_below_drewN | apply below_drew1) | exact HB.out)⟩⟩
    case rest =>
      clear HC12
      try clear c1
      try clear c2
      try clear p2
      try clear c3
      try clear c6
      try clear c11
      try clear c15
      try clear c15b0
      try clear c15b1
      try clear c16
      try clear c16b0
      try clear c16b1
      try clear c17
      try clear c17b0
      try clear c17b1
      try clear c18
      try clear c18b0
      try clear c18b1
      try clear c19
      try clear c19b0
      try clear c19b1
      try clear c20
      try clear c20b0
      try clear c20b1
      try clear c21
      try clear c21b0
      try clear c21b1
      obtain ⟨kq, x106_11, rfl, HA, HJ11, HB⟩ := hcut
      cases kq with
      | zero => exact absurd HA.out (by simp [laws_FnNumAdd.j0])
      | succ kj11 =>
        have H := HA.out
        clear HA
        simp only [laws_FnNumAdd.j0] at H
        by_cases c22 : x106_11 = true
        · subst c22
          have H1 : (some false) = some true := by rw [if_pos rfl] at H; first | done | exact H
          clear H
          have H := H1
          clear H1
          exact absurd (Option.some.inj H) (by decide)
        · replace c22 := Bool.eq_false_iff.mpr c22
          subst c22
          have H1 : (if t197 = 0 then ((impl_NumSub.f t196 t195).bind fun bt210 => (if bt210.2 = 0 then (some (bt210.1 == t194)) else (some false))) else (if t196 = 0 then (some ((decide (t197 > 0)) == (decide (t194 > 0)))) else (some false))) = some true := by rw [if_neg (show ¬ (false = true) by decide)] at H; first | done | exact H
          clear H
          have H := H1
          clear H1
          by_cases c23 : t197 = 0
          · rw [if_pos c23] at H
            have c23b0 : (t197 == 0) = true := beq_iff_eq.mpr c23
            have c23b1 : (t197 != 0) = false := bne_eq_false_iff_eq.mpr c23
            clear c23
            replace H := Option.bind_eq_some_iff.mp H
            obtain ⟨⟨t210, t211⟩, A240, H⟩ := H
            replace H : (if t211 = 0 then (some (t210 == t194)) else (some false)) = some true := H
            have A24 := Aside0.mk A240
            clear A240
            by_cases c25 : t211 = 0
            · rw [if_pos c25] at H
              have c25b0 : (t211 == 0) = true := beq_iff_eq.mpr c25
              have c25b1 : (t211 != 0) = false := bne_eq_false_iff_eq.mpr c25
              clear c25
              have HE_ := Aside0.mk (Option.some.inj H)
              clear H
              go_wp2_with (first | ((with_reducible refine gate_callee (f := 13) rfl ?_); refine goesL_ (some 121) rfl rfl Try.func13 (by kernel_rfl) rfl #[.int .i64 t196, .int .i64 t195] rfl (by (try simp only [List.map_toArray, List.map_cons, List.map_nil]); first | done | rfl | (simp only [List.length_drop, List.length_take]; rfl)) ?_; (with_reducible refine (impl_NumSub.calls t196 t195 t210 t211 _ A24.out).mono ?_); rintro e w' ⟨rfl, ⟨nd, rfl⟩⟩; refine ⟨_, rfl, ?_⟩))
              go_ret
              exact ⟨by first | rfl | exact congrArg (fun b_ => Ending.returned (Value.bool b_)) HE_.out | (refine absurd HE_.out ?_; simp [*]; done) | (have h_ := HE_.out; clear HE_; simp_all; done) | (have h_ := HE_.out; clear HE_; simp_all; omega) | (simp [errW_none, errW_some] <;> rfl) | (simp [*, errW_none, errW_some] <;> rfl), by repeat (first | (with_reducible first | exact HB.out | apply below_alloc | apply pw_below_drewN | apply below_drew1) | exact HB.out)⟩
            · rw [if_neg c25] at H
              have c25b0 : (t211 == 0) = false := beq_eq_false_iff_ne.mpr c25
              have c25b1 : (t211 != 0) = true := bne_iff_ne.mpr c25
              exact absurd (Option.some.inj H) (by decide)
          · rw [if_neg c23] at H
            have c23b0 : (t197 == 0) = false := beq_eq_false_iff_ne.mpr c23
            have c23b1 : (t197 != 0) = true := bne_iff_ne.mpr c23
            by_cases c26 : t196 = 0
            · rw [if_pos c26] at H
              have c26b0 : (t196 == 0) = true := beq_iff_eq.mpr c26
              have c26b1 : (t196 != 0) = false := bne_eq_false_iff_eq.mpr c26
              clear c26
              have HE_ := Aside0.mk (Option.some.inj H)
              clear H
              go_wp2
              go_ret
              exact ⟨by first | rfl | exact congrArg (fun b_ => Ending.returned (Value.bool b_)) HE_.out | (refine absurd HE_.out ?_; simp [*]; done) | (have h_ := HE_.out; clear HE_; simp_all; done) | (have h_ := HE_.out; clear HE_; simp_all; omega) | (simp [errW_none, errW_some] <;> rfl) | (simp [*, errW_none, errW_some] <;> rfl), by repeat (first | (with_reducible first | exact HB.out | apply below_alloc | apply pw_below_drewN | apply below_drew1) | exact HB.out)⟩
            · rw [if_neg c26] at H
              have c26b0 : (t196 == 0) = false := beq_eq_false_iff_ne.mpr c26
              have c26b1 : (t196 != 0) = true := bne_iff_ne.mpr c26
              exact absurd (Option.some.inj H) (by decide)

/-! ### spec_l2Join: function 55 -/
def spec_l2Join.f (a0_0 : Int) (a0_1 : Int) (a1_0 : Int) (a1_1 : Int) : Option (Int × Int) := some (mn a0_0 a1_0, mx a0_1 a1_1)
set_option maxHeartbeats 8000000 in
set_option maxRecDepth 100000 in
theorem spec_l2Join.calls (a0_0 : Int) (a0_1 : Int) (a1_0 : Int) (a1_1 : Int) (r1 : Int) (r2 : Int) (w : World) (h : spec_l2Join.f a0_0 a0_1 a1_0 a1_1 = some (r1, r2)) :
    Calls Try.prog 55 #[.agg #[.int .i64 a0_0, .int .i64 a0_1], .agg #[.int .i64 a1_0, .int .i64 a1_1]] w fun e w' => e = .returned (.agg #[.int .i64 r1, .int .i64 r2]) ∧ Below w.heap.size w w' := by
  have hu29 := Try.underlying29
  have HB := Aside0.mk (Below.refl w.heap.size w)
  have H : (some (mn a0_0 a1_0, mx a0_1 a1_1)) = some (r1, r2) := h
  clear h
  obtain ⟨ji3, hji3⟩ : ∃ j_ : Int, (mn a0_0 a1_0) = j_ := ⟨_, rfl⟩
  replace H : (some (ji3, mx a0_1 a1_1)) = some (r1, r2) := by first | (rw [hji3] at H; exact H) | (simp only [hji3] at H ⊢; exact H)
  have hji3_ : (if a1_0 < a0_0 then a1_0 else a0_0) = ji3 := hji3
  obtain ⟨ji4, hji4⟩ : ∃ j_ : Int, (mx a0_1 a1_1) = j_ := ⟨_, rfl⟩
  replace H : (some (ji3, ji4)) = some (r1, r2) := by first | (rw [hji4] at H; exact H) | (simp only [hji4] at H ⊢; exact H)
  have hji4_ : (if a0_1 < a1_1 then a1_1 else a0_1) = ji4 := hji4
  simp only [Option.some.injEq, Prod.mk.injEq] at H
  obtain ⟨rfl, rfl⟩ := H
  go_enter Try.func55, Try.ntmps55
  go_wp2_with (first | ((with_reducible refine gate_dst (N := 2) rfl ?_); refine box_event ?hg (N := 2) ?hd (cs := #[.int .i64 a0_0, .int .i64 a0_1]) (t := 29) ?hr ?_; (case hd => rfl); (case hg => rfl); (case hr => first | (go_simp; done) | (go_simp; rfl)); intro gb212 hg w5 hbox hb; have n0_ := Aside0.mk (below_step (by repeat (first | (with_reducible first | exact HB.out | apply below_alloc | apply pw_below_drewN | apply below_drew1) | exact HB.out)) hb); have n1_ := Aside0.mk (hbox); have n2_ := Aside0.mk ((by rw [hg]; exact (below_size (by repeat (first | (with_reducible first | exact HB.out | apply below_alloc | apply pw_below_drewN | apply below_drew1) | exact HB.out))) : w.heap.size ≤ gb212)); have n3_ := Aside0.mk ((by rw [hg]; exact (below_size (by repeat (first | (with_reducible first | exact HB.out | apply below_alloc | apply pw_below_drewN | apply below_drew1) | exact HB.out))) : w.heap.size ≤ gb212)); clear HB; have HB := n0_; have BK212 := n1_; have GW212 := n2_; have GE212 := n3_; clear n0_ n1_ n2_ n3_; clear hb hbox hg) | ((with_reducible refine gate_dst (N := 3) rfl ?_); refine box_event ?hg (N := 3) ?hd (cs := #[.int .i64 a1_0, .int .i64 a1_1]) (t := 29) ?hr ?_; (case hd => rfl); (case hg => rfl); (case hr => first | (go_simp; done) | (go_simp; rfl)); intro gb213 hg w6 hbox hb; have n0_ := Aside0.mk (blk_below (g := gb212) (o := .cells #[.int .i64 a0_0, .int .i64 a0_1] 29 (0, 0)) (by (with_reducible repeat (first | refine blk_drewN ?_ _ | refine blk_drew ?_ | refine blk_alloc ?_ _)); exact BK212.out) hb); have n1_ := Aside0.mk (below_step (by repeat (first | (with_reducible first | exact HB.out | apply below_alloc | apply pw_below_drewN | apply below_drew1 | refine below_set ?_ GE212.out) | exact HB.out)) hb); have n2_ := Aside0.mk (hbox); have n3_ := Aside0.mk ((by rw [hg]; exact (below_size (by repeat (first | (with_reducible first | exact HB.out | apply below_alloc | apply pw_below_drewN | apply below_drew1 | refine below_set ?_ GE212.out) | exact HB.out))) : w.heap.size ≤ gb213)); have n4_ := Aside0.mk ((by rw [hg]; exact (below_size (by repeat (first | (with_reducible first | exact HB.out | apply below_alloc | apply pw_below_drewN | apply below_drew1 | refine below_set ?_ GE212.out) | exact HB.out))) : w.heap.size ≤ gb213)); have n5_ := Aside0.mk ((by rw [hg]; exact Nat.ne_of_lt (blk_lt (g := gb212) (o := .cells #[.int .i64 a0_0, .int .i64 a0_1] 29 (0, 0)) (by (with_reducible repeat (first | refine blk_drewN ?_ _ | refine blk_drew ?_ | refine blk_alloc ?_ _)); exact BK212.out)) : gb212 ≠ gb213)); have n6_ := Aside0.mk ((by rw [hg]; exact Nat.ne_of_gt (blk_lt (g := gb212) (o := .cells #[.int .i64 a0_0, .int .i64 a0_1] 29 (0, 0)) (by (with_reducible repeat (first | refine blk_drewN ?_ _ | refine blk_drew ?_ | refine blk_alloc ?_ _)); exact BK212.out)) : gb213 ≠ gb212)); clear BK212; clear HB; have BK212 := n0_; have HB := n1_; have BK213 := n2_; have GW213 := n3_; have GE213 := n4_; have NB212_213 := n5_; have NB213_212 := n6_; clear n0_ n1_ n2_ n3_ n4_ n5_ n6_; clear hb hbox hg) | ((with_reducible refine gate_dst (N := 4) rfl ?_); refine box_event ?hg (N := 4) ?hd (cs := #[.int .i64 0, .int .i64 0]) (t := 29) ?hr ?_; (case hd => rfl); (case hg => rfl); (case hr => first | (go_simp; done) | (go_simp; rfl)); intro gb214 hg w7 hbox hb; have n0_ := Aside0.mk (blk_below (g := gb212) (o := .cells #[.int .i64 a0_0, .int .i64 a0_1] 29 (0, 0)) (by (with_reducible repeat (first | refine blk_drewN ?_ _ | refine blk_drew ?_ | refine blk_alloc ?_ _)); exact BK212.out) hb); have n1_ := Aside0.mk (blk_below (g := gb213) (o := .cells #[.int .i64 a1_0, .int .i64 a1_1] 29 (0, 0)) (by (with_reducible repeat (first | refine blk_drewN ?_ _ | refine blk_drew ?_ | refine blk_alloc ?_ _)); exact BK213.out) hb); have n2_ := Aside0.mk (below_step (by repeat (first | (with_reducible first | exact HB.out | apply below_alloc | apply pw_below_drewN | apply below_drew1 | refine below_set ?_ GE212.out | refine below_set ?_ GE213.out) | exact HB.out)) hb); have n3_ := Aside0.mk (hbox); have n4_ := Aside0.mk ((by rw [hg]; exact (below_size (by repeat (first | (with_reducible first | exact HB.out | apply below_alloc | apply pw_below_drewN | apply below_drew1 | refine below_set ?_ GE212.out | refine below_set ?_ GE213.out) | exact HB.out))) : w.heap.size ≤ gb214)); have n5_ := Aside0.mk ((by rw [hg]; exact (below_size (by repeat (first | (with_reducible first | exact HB.out | apply below_alloc | apply pw_below_drewN | apply below_drew1 | refine below_set ?_ GE212.out | refine below_set ?_ GE213.out) | exact HB.out))) : w.heap.size ≤ gb214)); have n6_ := Aside0.mk ((by rw [hg]; exact Nat.ne_of_lt (blk_lt (g := gb212) (o := .cells #[.int .i64 a0_0, .int .i64 a0_1] 29 (0, 0)) (by (with_reducible repeat (first | refine blk_drewN ?_ _ | refine blk_drew ?_ | refine blk_alloc ?_ _)); exact BK212.out)) : gb212 ≠ gb214)); have n7_ := Aside0.mk ((by rw [hg]; exact Nat.ne_of_gt (blk_lt (g := gb212) (o := .cells #[.int .i64 a0_0, .int .i64 a0_1] 29 (0, 0)) (by (with_reducible repeat (first | refine blk_drewN ?_ _ | refine blk_drew ?_ | refine blk_alloc ?_ _)); exact BK212.out)) : gb214 ≠ gb212)); have n8_ := Aside0.mk ((by rw [hg]; exact Nat.ne_of_lt (blk_lt (g := gb213) (o := .cells #[.int .i64 a1_0, .int .i64 a1_1] 29 (0, 0)) (by (with_reducible repeat (first | refine blk_drewN ?_ _ | refine blk_drew ?_ | refine blk_alloc ?_ _)); exact BK213.out)) : gb213 ≠ gb214)); have n9_ := Aside0.mk ((by rw [hg]; exact Nat.ne_of_gt (blk_lt (g := gb213) (o := .cells #[.int .i64 a1_0, .int .i64 a1_1] 29 (0, 0)) (by (with_reducible repeat (first | refine blk_drewN ?_ _ | refine blk_drew ?_ | refine blk_alloc ?_ _)); exact BK213.out)) : gb214 ≠ gb213)); clear BK212; clear BK213; clear HB; have BK212 := n0_; have BK213 := n1_; have HB := n2_; have BK214 := n3_; have GW214 := n4_; have GE214 := n5_; have NB212_214 := n6_; have NB214_212 := n7_; have NB213_214 := n8_; have NB214_213 := n9_; clear n0_ n1_ n2_ n3_ n4_ n5_ n6_ n7_ n8_ n9_; clear hb hbox hg; have hnb8 := NB212_213.out; have hnc8 := NB213_212.out; have hnb9 := NB212_214.out; have hnc9 := NB214_212.out; have hcz10_0 : w7.cell? ⟨gb212, 0, none⟩ = some (.int .i64 a0_0) := (blk_cell BK212.out 0).trans rfl; have hcz10_1 : w7.cell? ⟨gb212, 1, none⟩ = some (.int .i64 a0_1) := (blk_cell BK212.out 1).trans rfl; have hfz10_0 := blk_frozen BK212.out 0; have hfz10_1 := blk_frozen BK212.out 1; have hnb11 := NB213_214.out; have hnc11 := NB214_213.out; have hcz12_0 : w7.cell? ⟨gb213, 0, none⟩ = some (.int .i64 a1_0) := (blk_cell BK213.out 0).trans rfl; have hcz12_1 : w7.cell? ⟨gb213, 1, none⟩ = some (.int .i64 a1_1) := (blk_cell BK213.out 1).trans rfl; have hfz12_0 := blk_frozen BK213.out 0; have hfz12_1 := blk_frozen BK213.out 1; have hcz13_0 : w7.cell? ⟨gb214, 0, none⟩ = some (.int .i64 0) := (blk_cell BK214.out 0).trans rfl; have hcz13_1 : w7.cell? ⟨gb214, 1, none⟩ = some (.int .i64 0) := (blk_cell BK214.out 1).trans rfl; have hfz13_0 := blk_frozen BK214.out 0; have hfz13_1 := blk_frozen BK214.out 1))
  refine bodyPost_ret (results_cell_row rfl _ _ gb214 29 #[.int .i64 ji3, .int .i64 ji4] (0, 0) _ rfl (by (with_reducible repeat (first | refine blk_drewN ?_ _ | refine blk_drew ?_ | refine blk_alloc ?_ _)); refine blk_put (cs := #[.int .i64 ji3, .int .i64 0]) ?_ 1 _ rfl; (with_reducible repeat (first | refine blk_drewN ?_ _ | refine blk_drew ?_ | refine blk_alloc ?_ _)); refine blk_put (cs := #[.int .i64 0, .int .i64 0]) ?_ 0 _ rfl; (with_reducible repeat (first | refine blk_drewN ?_ _ | refine blk_drew ?_ | refine blk_alloc ?_ _)); exact BK214.out) Try.underlying29 rfl (by kernel_rfl)) rfl ?_
  exact ⟨by first | rfl | (simp [errW_none, errW_some] <;> rfl) | (simp only [← hji3, ← hji4]; first | rfl | (simp [errW_none, errW_some] <;> rfl)) | (simp [*, errW_none, errW_some] <;> rfl), by repeat (first | (with_reducible first | exact HB.out | apply below_alloc | apply pw_below_drewN | apply below_drew1 | refine below_set ?_ GE212.out | refine below_set ?_ GE213.out | refine below_set ?_ GE214.out) | exact HB.out)⟩

end Go.Proofs.Ytblgpjllgadibaa.Q
