-- Contracts of the program's functions, each with the plain function that it computes.
import Derived.Test.YtblgpjllgadibaaQx0
import Derived.Test.YtblgpjllgadibaaQx2
import Derived.Test.YtblgpjllgadibaaQx5
import Derived.Test.YtblgpjllgadibaaQx7
import Derived.Test.YtblgpjllgadibaaQx8
import Derived.Test.YtblgpjllgadibaaQx9
namespace Go.Proofs.Ytblgpjllgadibaa.Q
open Go.RowKit Go.Proofs.YtblgpjllgadibaaW.PrintWords Go.Proofs.YtblgpjllgadibaaW.PrintLast Go.Proofs.YtblgpjllgadibaaW.PrintMore
attribute [local go_sem] max2_int min2_int max_two min_two max_three min_three max_four min_four   -- for this text's walks alone
set_option linter.unusedVariables false
set_option linter.unusedSimpArgs false

/-! ### laws_FnNumQuo: function 5 -/
def laws_FnNumQuo.j0 : Nat → Int → Int → Int → Int → Int → Int → Int → Bool → Option (Bool)
  | 0, _, _, _, _, _, _, _, _ => none
  | k + 1, x3, x4, x5, x6, x7, x8, x9, x59 => if x59 = true then (if x5 = x8 then (if x6 = x9 then ((spec_NumRem.f x3 x4).bind fun t188 => (some (x7 == t188))) else (some false)) else (some false)) else ((impl_NumMul.f x5 x4).bind fun bt189 => ((impl_NumAdd.f bt189.1 x7).bind fun bt191 => (if x7 = 0 then (if bt189.2 = 0 then (if bt191.2 = 0 then (if bt191.1 = x3 then (some true) else (some false)) else (some false)) else (some false)) else (if x7 > 0 then (if x4 > x7 then (if bt189.2 = 0 then (if bt191.2 = 0 then (if bt191.1 = x3 then (some ((decide (x7 < 0)) == (decide (x3 < 0)))) else (some false)) else (some false)) else (some false)) else (if x4 < (wrap64 (-x7)) then (if bt189.2 = 0 then (if bt191.2 = 0 then (if bt191.1 = x3 then (some ((decide (x7 < 0)) == (decide (x3 < 0)))) else (some false)) else (some false)) else (some false)) else (if x7 < 0 then (if x4 < x7 then (if bt189.2 = 0 then (if bt191.2 = 0 then (if bt191.1 = x3 then (some ((decide (x7 < 0)) == (decide (x3 < 0)))) else (some false)) else (some false)) else (some false)) else (if bt189.2 = 0 then (if bt191.2 = 0 then (if bt191.1 = x3 then (if x4 > (wrap64 (-x7)) then (some ((decide (x7 < 0)) == (decide (x3 < 0)))) else (some false)) else (some false)) else (some false)) else (some false))) else (if bt189.2 = 0 then (if bt191.2 = 0 then (if bt191.1 = x3 then (some false) else (some false)) else (some false)) else (some false))))) else (if x7 < 0 then (if x4 < x7 then (if bt189.2 = 0 then (if bt191.2 = 0 then (if bt191.1 = x3 then (some ((decide (x7 < 0)) == (decide (x3 < 0)))) else (some false)) else (some false)) else (some false)) else (if bt189.2 = 0 then (if bt191.2 = 0 then (if bt191.1 = x3 then (if x4 > (wrap64 (-x7)) then (some ((decide (x7 < 0)) == (decide (x3 < 0)))) else (some false)) else (some false)) else (some false)) else (some false))) else (if bt189.2 = 0 then (if bt191.2 = 0 then (if bt191.1 = x3 then (some false) else (some false)) else (some false)) else (some false)))))))
def laws_FnNumQuo.f (k : Nat) (l0 : List Int) : Option (Bool) := (laws_big.f l0).bind fun t179 => (if t179 = true then (some true) else ((spec_DrawNumQuo.f k l0).bind fun bt180 => ((impl_NumQuo.f bt180.1 bt180.2).bind fun bt182 => ((impl_NumRem.f bt180.1 bt180.2).bind fun t184 => ((spec_NumQuo.f bt180.1 bt180.2).bind fun bt185 => (if bt182.1 = bt185.1 then (if bt182.2 = bt185.2 then ((spec_NumRem.f bt180.1 bt180.2).bind fun t187 => (if t184 = t187 then (if bt180.2 = 0 then (laws_FnNumQuo.j0 k bt180.1 bt180.2 bt182.1 bt182.2 t184 bt185.1 bt185.2 true) else (laws_FnNumQuo.j0 k bt180.1 bt180.2 bt182.1 bt182.2 t184 bt185.1 bt185.2 (bt182.2 != 0))) else (laws_FnNumQuo.j0 k bt180.1 bt180.2 bt182.1 bt182.2 t184 bt185.1 bt185.2 true))) else (laws_FnNumQuo.j0 k bt180.1 bt180.2 bt182.1 bt182.2 t184 bt185.1 bt185.2 true)) else (laws_FnNumQuo.j0 k bt180.1 bt180.2 bt182.1 bt182.2 t184 bt185.1 bt185.2 true)))))))
theorem laws_FnNumQuo.mono_l : ∀ k, (∀ y0 y1 y2 y3 y4 y5 y6 y7, LeO (laws_FnNumQuo.j0 k y0 y1 y2 y3 y4 y5 y6 y7) (laws_FnNumQuo.j0 (k + 1) y0 y1 y2 y3 y4 y5 y6 y7))
  | 0 => fun _ _ _ _ _ _ _ _ r h => by simp [laws_FnNumQuo.j0] at h
  | k + 1 => by
    have ih0 := laws_FnNumQuo.mono_l k
    · intro y0 y1 y2 y3 y4 y5 y6 y7
      unfold laws_FnNumQuo.j0
      repeat' first
      | (with_reducible exact ih0 _ _ _ _ _ _ _ _)
      | (with_reducible exact spec_DrawNumQuo.mono _ _)
      | (with_reducible exact LeO.refl _)
      | (with_reducible exact LeO.none _)
      | (with_reducible refine LeO.ite ?_ ?_)
      | (with_reducible refine LeO.bind ?_ (fun _ => ?_))
      | exact ih0 _ _ _ _ _ _ _ _
      | exact spec_DrawNumQuo.mono _ _
      | exact LeO.none _
      | refine LeO.ite ?_ ?_
      | refine LeO.bind ?_ (fun _ => ?_)
theorem laws_FnNumQuo.mono : ∀ a0 k, LeO (laws_FnNumQuo.f k a0) (laws_FnNumQuo.f (k + 1) a0) := by
  intro a0 k
  have ih0 := laws_FnNumQuo.mono_l k
  unfold laws_FnNumQuo.f
  repeat' first
      | (with_reducible exact ih0 _ _ _ _ _ _ _ _)
      | (with_reducible exact spec_DrawNumQuo.mono _ _)
      | (with_reducible exact LeO.refl _)
      | (with_reducible exact LeO.none _)
      | (with_reducible refine LeO.ite ?_ ?_)
      | (with_reducible refine LeO.bind ?_ (fun _ => ?_))
      | exact ih0 _ _ _ _ _ _ _ _
      | exact spec_DrawNumQuo.mono _ _
      | exact LeO.none _
      | refine LeO.ite ?_ ?_
      | refine LeO.bind ?_ (fun _ => ?_)
set_option maxHeartbeats 8000000 in
set_option maxRecDepth 100000 in
theorem laws_FnNumQuo.calls (k : Nat) (A0 : Option Addr) (c0 : Nat) (l0 : List Int) (w : World) (hr0 : Kd.C (Kd.int .u8) w A0 l0.length l0) (hc0 : l0.length ≤ c0) (h : laws_FnNumQuo.f k l0 = some true) :
    Calls Try.prog 5 #[.slice A0 l0.length c0] w fun e w' => e = .returned (.bool true) ∧ Below w.heap.size w w' := by
  have HR0 := Aside0.mk hr0
  have HC0 := Aside0.mk hc0
  clear hr0 hc0
  have HB := Aside0.mk (Below.refl w.heap.size w)
  have H : ((laws_big.f l0).bind fun t179 => (if t179 = true then (some true) else ((spec_DrawNumQuo.f k l0).bind fun bt180 => ((impl_NumQuo.f bt180.1 bt180.2).bind fun bt182 => ((impl_NumRem.f bt180.1 bt180.2).bind fun t184 => ((spec_NumQuo.f bt180.1 bt180.2).bind fun bt185 => (if bt182.1 = bt185.1 then (if bt182.2 = bt185.2 then ((spec_NumRem.f bt180.1 bt180.2).bind fun t187 => (if t184 = t187 then (if bt180.2 = 0 then (laws_FnNumQuo.j0 k bt180.1 bt180.2 bt182.1 bt182.2 t184 bt185.1 bt185.2 true) else (laws_FnNumQuo.j0 k bt180.1 bt180.2 bt182.1 bt182.2 t184 bt185.1 bt185.2 (bt182.2 != 0))) else (laws_FnNumQuo.j0 k bt180.1 bt180.2 bt182.1 bt182.2 t184 bt185.1 bt185.2 true))) else (laws_FnNumQuo.j0 k bt180.1 bt180.2 bt182.1 bt182.2 t184 bt185.1 bt185.2 true)) else (laws_FnNumQuo.j0 k bt180.1 bt180.2 bt182.1 bt182.2 t184 bt185.1 bt185.2 true)))))))) = some true := h
  clear h
  replace H := Option.bind_eq_some_iff.mp H
  obtain ⟨t179, A20, H⟩ := H
  replace H : (if t179 = true then (some true) else ((spec_DrawNumQuo.f k l0).bind fun bt180 => ((impl_NumQuo.f bt180.1 bt180.2).bind fun bt182 => ((impl_NumRem.f bt180.1 bt180.2).bind fun t184 => ((spec_NumQuo.f bt180.1 bt180.2).bind fun bt185 => (if bt182.1 = bt185.1 then (if bt182.2 = bt185.2 then ((spec_NumRem.f bt180.1 bt180.2).bind fun t187 => (if t184 = t187 then (if bt180.2 = 0 then (laws_FnNumQuo.j0 k bt180.1 bt180.2 bt182.1 bt182.2 t184 bt185.1 bt185.2 true) else (laws_FnNumQuo.j0 k bt180.1 bt180.2 bt182.1 bt182.2 t184 bt185.1 bt185.2 (bt182.2 != 0))) else (laws_FnNumQuo.j0 k bt180.1 bt180.2 bt182.1 bt182.2 t184 bt185.1 bt185.2 true))) else (laws_FnNumQuo.j0 k bt180.1 bt180.2 bt182.1 bt182.2 t184 bt185.1 bt185.2 true)) else (laws_FnNumQuo.j0 k bt180.1 bt180.2 bt182.1 bt182.2 t184 bt185.1 bt185.2 true))))))) = some true := H
  have A2 := Aside0.mk A20
  clear A20
  by_cases c3 : t179 = true
  · subst c3
    have H1 : (some true) = some true := by rw [if_pos rfl] at H; first | done | exact H
    clear H
    have H := H1
    clear H1
    have HE_ := Aside0.mk (Option.some.inj H)
    clear H
    go_enter Try.func5, Try.ntmps5
    go_wp2_with (first | ((with_reducible refine gate_callee (f := 11) rfl ?_); refine goesL_ (some 16) rfl rfl Try.func11 (by kernel_rfl) rfl #[.slice A0 l0.length c0] rfl (by (try simp only [List.map_toArray, List.map_cons, List.map_nil]); first | done | rfl | (simp only [List.length_drop, List.length_take]; rfl)) ?_; (with_reducible refine (laws_big.calls _ _ l0 true _ ?side1 ?side2 A2.out).mono ?_); (case side1 => repeat (first | exact HR0.out | (with_reducible refine Kd.C_alloc ?_ _) | (with_reducible refine Kd.C_drewN ?_ _) | (with_reducible refine Kd.C_drew ?_))); (case side2 => exact HC0.out); rintro e w' ⟨rfl, ⟨nd, rfl⟩⟩; refine ⟨_, rfl, ?_⟩))
    go_ret
    exact ⟨by first | rfl | exact congrArg (fun b_ => Ending.returned (Value.bool b_)) HE_.out | (refine absurd HE_.out ?_; simp [*]; done) | (have h_ := HE_.out; clear HE_; simp_all; done) | (have h_ := HE_.out; clear HE_; simp_all; omega) | (simp [errW_none, errW_some] <;> rfl) | (simp [*, errW_none, errW_some] <;> rfl), by repeat (first | (with_reducible first | exact HB.out | apply below_alloc | apply pw_below_drewN | apply below_drew1) | exact HB.out)⟩
  · replace c3 := Bool.eq_false_iff.mpr c3
    subst c3
    have H1 : ((spec_DrawNumQuo.f k l0).bind fun bt180 => ((impl_NumQuo.f bt180.1 bt180.2).bind fun bt182 => ((impl_NumRem.f bt180.1 bt180.2).bind fun t184 => ((spec_NumQuo.f bt180.1 bt180.2).bind fun bt185 => (if bt182.1 = bt185.1 then (if bt182.2 = bt185.2 then ((spec_NumRem.f bt180.1 bt180.2).bind fun t187 => (if t184 = t187 then (if bt180.2 = 0 then (laws_FnNumQuo.j0 k bt180.1 bt180.2 bt182.1 bt182.2 t184 bt185.1 bt185.2 true) else (laws_FnNumQuo.j0 k bt180.1 bt180.2 bt182.1 bt182.2 t184 bt185.1 bt185.2 (bt182.2 != 0))) else (laws_FnNumQuo.j0 k bt180.1 bt180.2 bt182.1 bt182.2 t184 bt185.1 bt185.2 true))) else (laws_FnNumQuo.j0 k bt180.1 bt180.2 bt182.1 bt182.2 t184 bt185.1 bt185.2 true)) else (laws_FnNumQuo.j0 k bt180.1 bt180.2 bt182.1 bt182.2 t184 bt185.1 bt185.2 true)))))) = some true := by rw [if_neg (show ¬ (false = true) by decide)] at H; first | done | exact H
    clear H
    have H := H1
    clear H1
    replace H := Option.bind_eq_some_iff.mp H
    obtain ⟨⟨t180, t181⟩, A40, H⟩ := H
    replace H : ((impl_NumQuo.f t180 t181).bind fun bt182 => ((impl_NumRem.f t180 t181).bind fun t184 => ((spec_NumQuo.f t180 t181).bind fun bt185 => (if bt182.1 = bt185.1 then (if bt182.2 = bt185.2 then ((spec_NumRem.f t180 t181).bind fun t187 => (if t184 = t187 then (if t181 = 0 then (laws_FnNumQuo.j0 k t180 t181 bt182.1 bt182.2 t184 bt185.1 bt185.2 true) else (laws_FnNumQuo.j0 k t180 t181 bt182.1 bt182.2 t184 bt185.1 bt185.2 (bt182.2 != 0))) else (laws_FnNumQuo.j0 k t180 t181 bt182.1 bt182.2 t184 bt185.1 bt185.2 true))) else (laws_FnNumQuo.j0 k t180 t181 bt182.1 bt182.2 t184 bt185.1 bt185.2 true)) else (laws_FnNumQuo.j0 k t180 t181 bt182.1 bt182.2 t184 bt185.1 bt185.2 true))))) = some true := H
    have A4 := Aside0.mk A40
    clear A40
    replace H := Option.bind_eq_some_iff.mp H
    obtain ⟨⟨t182, t183⟩, A50, H⟩ := H
    replace H : ((impl_NumRem.f t180 t181).bind fun t184 => ((spec_NumQuo.f t180 t181).bind fun bt185 => (if t182 = bt185.1 then (if t183 = bt185.2 then ((spec_NumRem.f t180 t181).bind fun t187 => (if t184 = t187 then (if t181 = 0 then (laws_FnNumQuo.j0 k t180 t181 t182 t183 t184 bt185.1 bt185.2 true) else (laws_FnNumQuo.j0 k t180 t181 t182 t183 t184 bt185.1 bt185.2 (t183 != 0))) else (laws_FnNumQuo.j0 k t180 t181 t182 t183 t184 bt185.1 bt185.2 true))) else (laws_FnNumQuo.j0 k t180 t181 t182 t183 t184 bt185.1 bt185.2 true)) else (laws_FnNumQuo.j0 k t180 t181 t182 t183 t184 bt185.1 bt185.2 true)))) = some true := H
    have A5 := Aside0.mk A50
    clear A50
    replace H := Option.bind_eq_some_iff.mp H
    obtain ⟨t184, A60, H⟩ := H
    replace H : ((spec_NumQuo.f t180 t181).bind fun bt185 => (if t182 = bt185.1 then (if t183 = bt185.2 then ((spec_NumRem.f t180 t181).bind fun t187 => (if t184 = t187 then (if t181 = 0 then (laws_FnNumQuo.j0 k t180 t181 t182 t183 t184 bt185.1 bt185.2 true) else (laws_FnNumQuo.j0 k t180 t181 t182 t183 t184 bt185.1 bt185.2 (t183 != 0))) else (laws_FnNumQuo.j0 k t180 t181 t182 t183 t184 bt185.1 bt185.2 true))) else (laws_FnNumQuo.j0 k t180 t181 t182 t183 t184 bt185.1 bt185.2 true)) else (laws_FnNumQuo.j0 k t180 t181 t182 t183 t184 bt185.1 bt185.2 true))) = some true := H
    have A6 := Aside0.mk A60
    clear A60
    replace H := Option.bind_eq_some_iff.mp H
    obtain ⟨⟨t185, t186⟩, A70, H⟩ := H
    replace H : (if t182 = t185 then (if t183 = t186 then ((spec_NumRem.f t180 t181).bind fun t187 => (if t184 = t187 then (if t181 = 0 then (laws_FnNumQuo.j0 k t180 t181 t182 t183 t184 t185 t186 true) else (laws_FnNumQuo.j0 k t180 t181 t182 t183 t184 t185 t186 (t183 != 0))) else (laws_FnNumQuo.j0 k t180 t181 t182 t183 t184 t185 t186 true))) else (laws_FnNumQuo.j0 k t180 t181 t182 t183 t184 t185 t186 true)) else (laws_FnNumQuo.j0 k t180 t181 t182 t183 t184 t185 t186 true)) = some true := H
    have A7 := Aside0.mk A70
    clear A70
    have HC8 := Aside0.mk H
    clear H
    go_enter Try.func5, Try.ntmps5
    go_upto_region 7 with (first | ((with_reducible refine gate_callee (f := 11) rfl ?_); refine goesL_ (some 16) rfl rfl Try.func11 (by kernel_rfl) rfl #[.slice A0 l0.length c0] rfl (by (try simp only [List.map_toArray, List.map_cons, List.map_nil]); first | done | rfl | (simp only [List.length_drop, List.length_take]; rfl)) ?_; (with_reducible refine (laws_big.calls _ _ l0 false _ ?side1 ?side2 A2.out).mono ?_); (case side1 => repeat (first | exact HR0.out | (with_reducible refine Kd.C_alloc ?_ _) | (with_reducible refine Kd.C_drewN ?_ _) | (with_reducible refine Kd.C_drew ?_))); (case side2 => exact HC0.out); rintro e w' ⟨rfl, ⟨nd, rfl⟩⟩; refine ⟨_, rfl, ?_⟩) | ((with_reducible refine gate_callee (f := 20) rfl ?_); refine goesL_ (some 19) rfl rfl Try.func20 (by kernel_rfl) rfl #[.slice A0 l0.length c0] rfl (by (try simp only [List.map_toArray, List.map_cons, List.map_nil]); first | done | rfl | (simp only [List.length_drop, List.length_take]; rfl)) ?_; (with_reducible refine (spec_DrawNumQuo.calls k _ _ l0 t180 t181 _ ?side1 ?side2 A4.out).mono ?_); (case side1 => repeat (first | exact HR0.out | (with_reducible refine Kd.C_alloc ?_ _) | (with_reducible refine Kd.C_drewN ?_ _) | (with_reducible refine Kd.C_drew ?_))); (case side2 => exact HC0.out); rintro e w9 ⟨rfl, hb⟩; refine ⟨_, rfl, ?_⟩; have n0_ := Aside0.mk (below_step (by repeat (first | (with_reducible first | exact HB.out | apply below_alloc | apply pw_below_drewN | apply below_drew1) | exact HB.out)) hb); clear HB; have HB := n0_; clear n0_; (try clear hb); (try clear hb2); (try clear hk); (try clear hi)) | ((with_reducible refine gate_callee (f := 19) rfl ?_); refine goesL_ (some 25) rfl rfl Try.func19 (by kernel_rfl) rfl #[.int .i64 t180, .int .i64 t181] rfl (by (try simp only [List.map_toArray, List.map_cons, List.map_nil]); first | done | rfl | (simp only [List.length_drop, List.length_take]; rfl)) ?_; (with_reducible refine (impl_NumQuo.calls t180 t181 t182 t183 _ A5.out).mono ?_); rintro e w' ⟨rfl, ⟨nd, rfl⟩⟩; refine ⟨_, rfl, ?_⟩) | ((with_reducible refine gate_callee (f := 21) rfl ?_); refine goesL_ (some 30) rfl rfl Try.func21 (by kernel_rfl) rfl #[.int .i64 t180, .int .i64 t181] rfl (by (try simp only [List.map_toArray, List.map_cons, List.map_nil]); first | done | rfl | (simp only [List.length_drop, List.length_take]; rfl)) ?_; (with_reducible refine (impl_NumRem.calls t180 t181 t184 _ A6.out).mono ?_); rintro e w' ⟨rfl, ⟨nd, rfl⟩⟩; refine ⟨_, rfl, ?_⟩) | ((with_reducible refine gate_callee (f := 22) rfl ?_); refine goesL_ (some 34) rfl rfl Try.func22 (by kernel_rfl) rfl #[.int .i64 t180, .int .i64 t181] rfl (by (try simp only [List.map_toArray, List.map_cons, List.map_nil]); first | done | rfl | (simp only [List.length_drop, List.length_take]; rfl)) ?_; (with_reducible refine (spec_NumQuo.calls t180 t181 t185 t186 _ A7.out).mono ?_); rintro e w' ⟨rfl, ⟨nd, rfl⟩⟩; refine ⟨_, rfl, ?_⟩))
    (try simp only [Act.put, List.setIfInBounds_toArray, List.set_cons_zero, List.set_cons_succ])
    go_cut [59] (fun v59 wc => ∃ (kq : Nat) (x59_7 : Bool), v59 = .bool x59_7 ∧ Aside0 (laws_FnNumQuo.j0 kq t180 t181 t182 t183 t184 t185 t186 x59_7 = some true) ∧ Aside0 (kq ≤ k) ∧ Aside0 (Below w.heap.size w wc))
    case first =>
      have H := HC8.out
      clear HC8
      by_cases c10 : t182 = t185
      · rw [if_pos c10] at H
        have c10b0 : (t182 == t185) = true := beq_iff_eq.mpr c10
        have c10b1 : (t182 != t185) = false := bne_eq_false_iff_eq.mpr c10
        clear c10
        (first | rw [c10b0] | (simp only [i64_w, i32_w]; rw [c10b0]) | skip)
        by_cases c11 : t183 = t186
        · rw [if_pos c11] at H
          have c11b0 : (t183 == t186) = true := beq_iff_eq.mpr c11
          have c11b1 : (t183 != t186) = false := bne_eq_false_iff_eq.mpr c11
          clear c11
          replace H := Option.bind_eq_some_iff.mp H
          obtain ⟨t187, A120, H⟩ := H
          replace H : (if t184 = t187 then (if t181 = 0 then (laws_FnNumQuo.j0 k t180 t181 t182 t183 t184 t185 t186 true) else (laws_FnNumQuo.j0 k t180 t181 t182 t183 t184 t185 t186 (t183 != 0))) else (laws_FnNumQuo.j0 k t180 t181 t182 t183 t184 t185 t186 true)) = some true := H
          have A12 := Aside0.mk A120
          clear A120
          by_cases c13 : t184 = t187
          · rw [if_pos c13] at H
            have c13b0 : (t184 == t187) = true := beq_iff_eq.mpr c13
            have c13b1 : (t184 != t187) = false := bne_eq_false_iff_eq.mpr c13
            clear c13
            by_cases c14 : t181 = 0
            · rw [if_pos c14] at H
              have c14b0 : (t181 == 0) = true := beq_iff_eq.mpr c14
              have c14b1 : (t181 != 0) = false := bne_eq_false_iff_eq.mpr c14
              clear c14
              have H' := Aside0.mk H
              clear H
              go_wp2_with (first | (go_at_call 23; (with_reducible refine (spec_NumRem.calls t180 t181 t187 _ A12.out).mono ?_); rintro e w' ⟨rfl, ⟨nd, rfl⟩⟩))
              go_meet
              case rel => exact ⟨_, (true), (by first | rfl | (simp; done) | (simp [*]; done)), H', ⟨by first | omega | exact Nat.le_refl _⟩, ⟨by repeat (first | (with_reducible first | exact HB.out | apply below_alloc | apply pw_below_drewN | apply below_drew1) | exact HB.out)⟩⟩
            · rw [if_neg c14] at H
              have c14b0 : (t181 == 0) = false := beq_eq_false_iff_ne.mpr c14
              have c14b1 : (t181 != 0) = true := bne_iff_ne.mpr c14
              have H' := Aside0.mk H
              clear H
              go_wp2_with (first | (go_at_call 23; (with_reducible refine (spec_NumRem.calls t180 t181 t187 _ A12.out).mono ?_); rintro e w' ⟨rfl, ⟨nd, rfl⟩⟩))
              go_meet
              case rel => exact ⟨_, ((t183 != 0)), (by first | rfl | (simp; done) | (simp [*]; done)), H', ⟨by first | omega | exact Nat.le_refl _⟩, ⟨by repeat (first | (with_reducible first | exact HB.out | apply below_alloc | apply pw_below_drewN | apply below_drew1) | exact HB.out)⟩⟩
          · rw [if_neg c13] at H
            have c13b0 : (t184 == t187) = false := beq_eq_false_iff_ne.mpr c13
            have c13b1 : (t184 != t187) = true := bne_iff_ne.mpr c13
            have H' := Aside0.mk H
            clear H
            go_wp2_with (first | (go_at_call 23; (with_reducible refine (spec_NumRem.calls t180 t181 t187 _ A12.out).mono ?_); rintro e w' ⟨rfl, ⟨nd, rfl⟩⟩))
            go_meet
            case rel => exact ⟨_, (true), (by first | rfl | (simp; done) | (simp [*]; done)), H', ⟨by first | omega | exact Nat.le_refl _⟩, ⟨by repeat (first | (with_reducible first | exact HB.out | apply below_alloc | apply pw_below_drewN | apply below_drew1) | exact HB.out)⟩⟩
        · rw [if_neg c11] at H
          have c11b0 : (t183 == t186) = false := beq_eq_false_iff_ne.mpr c11
          have c11b1 : (t183 != t186) = true := bne_iff_ne.mpr c11
          have H' := Aside0.mk H
          clear H
          go_wp2
          go_meet
          case rel => exact ⟨_, (true), (by first | rfl | (simp; done) | (simp [*]; done)), H', ⟨by first | omega | exact Nat.le_refl _⟩, ⟨by repeat (first | (with_reducible first | exact HB.out | apply below_alloc | apply pw_below_drewN | apply below_drew1) | exact HB.out)⟩⟩
      · rw [if_neg c10] at H
        have c10b0 : (t182 == t185) = false := beq_eq_false_iff_ne.mpr c10
        have c10b1 : (t182 != t185) = true := bne_iff_ne.mpr c10
        (first | rw [c10b0] | (simp only [i64_w, i32_w]; rw [c10b0]) | skip)
        have H' := Aside0.mk H
        clear H
        go_wp2
        go_meet
        case rel => exact ⟨_, (true), (by first | rfl | (simp; done) | (simp [*]; done)), H', ⟨by first | omega | exact Nat.le_refl _⟩, ⟨by repeat (first | (with_reducible first | exact HB.out | apply below_alloc | apply pw_below_drewN | apply below_drew1) | exact HB.out)⟩⟩
    case rest =>
      clear HC8
      try clear c1
      try clear c2
      try clear p2
      try clear c3
      try clear c5
      try clear c10
      try clear c10b0
      try clear c10b1
      try clear c11
      try clear c11b0
      try clear c11b1
      try clear c13
      try clear c13b0
      try clear c13b1
      try clear c14
      try clear c14b0
      try clear c14b1
      obtain ⟨kq, x59_7, rfl, HA, HJ7, HB⟩ := hcut
      cases kq with
      | zero => exact absurd HA.out (by simp [laws_FnNumQuo.j0])
      | succ kj7 =>
        have H := HA.out
        clear HA
        simp only [laws_FnNumQuo.j0] at H
        by_cases c15 : x59_7 = true
        · subst c15
          have H1 : (if t182 = t185 then (if t183 = t186 then ((spec_NumRem.f t180 t181).bind fun t188 => (some (t184 == t188))) else (some false)) else (some false)) = some true := by rw [if_pos rfl] at H; first | done | exact H
          clear H
          have H := H1
          clear H1
          by_cases c16 : t182 = t185
          · rw [if_pos c16] at H
            have c16b0 : (t182 == t185) = true := beq_iff_eq.mpr c16
            have c16b1 : (t182 != t185) = false := bne_eq_false_iff_eq.mpr c16
            clear c16
            by_cases c17 : t183 = t186
            · rw [if_pos c17] at H
              have c17b0 : (t183 == t186) = true := beq_iff_eq.mpr c17
              have c17b1 : (t183 != t186) = false := bne_eq_false_iff_eq.mpr c17
              clear c17
              replace H := Option.bind_eq_some_iff.mp H
              obtain ⟨t188, A180, H⟩ := H
              replace H : (some (t184 == t188)) = some true := H
              have A18 := Aside0.mk A180
              clear A180
              have HE_ := Aside0.mk (Option.some.inj H)
              clear H
              go_wp2_with (first | (go_at_call 23; (with_reducible refine (spec_NumRem.calls t180 t181 t188 _ A18.out).mono ?_); rintro e w' ⟨rfl, ⟨nd, rfl⟩⟩))
              go_ret
              exact ⟨by first | rfl | exact congrArg (fun b_ => Ending.returned (Value.bool b_)) HE_.out | (refine absurd HE_.out ?_; simp [*]; done) | (have h_ := HE_.out; clear HE_; simp_all; done) | (have h_ := HE_.out; clear HE_; simp_all; omega) | (simp [errW_none, errW_some] <;> rfl) | (simp [*, errW_none, errW_some] <;> rfl), by repeat (first | (with_reducible first | exact HB.out | apply below_alloc | apply pw_below_drewN | apply below_drew1) | exact HB.out)⟩
            · rw [if_neg c17] at H
              have c17b0 : (t183 == t186) = false := beq_eq_false_iff_ne.mpr c17
              have c17b1 : (t183 != t186) = true := bne_iff_ne.mpr c17
              exact absurd (Option.some.inj H) (by decide)
          · rw [if_neg c16] at H
            have c16b0 : (t182 == t185) = false := beq_eq_false_iff_ne.mpr c16
            have c16b1 : (t182 != t185) = true := bne_iff_ne.mpr c16
            exact absurd (Option.some.inj H) (by decide)
        · replace c15 := Bool.eq_false_iff.mpr c15
          subst c15
          have H1 : ((impl_NumMul.f t182 t181).bind fun bt189 => ((impl_NumAdd.f bt189.1 t184).bind fun bt191 => (if t184 = 0 then (if bt189.2 = 0 then (if bt191.2 = 0 then (if bt191.1 = t180 then (some true) else (some false)) else (some false)) else (some false)) else (if t184 > 0 then (if t181 > t184 then (if bt189.2 = 0 then (if bt191.2 = 0 then (if bt191.1 = t180 then (some ((decide (t184 < 0)) == (decide (t180 < 0)))) else (some false)) else (some false)) else (some false)) else (if t181 < (wrap64 (-t184)) then (if bt189.2 = 0 then (if bt191.2 = 0 then (if bt191.1 = t180 then (some ((decide (t184 < 0)) == (decide (t180 < 0)))) else (some false)) else (some false)) else (some false)) else (if t184 < 0 then (if t181 < t184 then (if bt189.2 = 0 then (if bt191.2 = 0 then (if bt191.1 = t180 then (some ((decide (t184 < 0)) == (decide (t180 < 0)))) else (some false)) else (some false)) else (some false)) else (if bt189.2 = 0 then (if bt191.2 = 0 then (if bt191.1 = t180 then (if t181 > (wrap64 (-t184)) then (some ((decide (t184 < 0)) == (decide (t180 < 0)))) else (some false)) else (some false)) else (some false)) else (some false))) else (if bt189.2 = 0 then (if bt191.2 = 0 then (if bt191.1 = t180 then (some false) else (some false)) else (some false)) else (some false))))) else (if t184 < 0 then (if t181 < t184 then (if bt189.2 = 0 then (if bt191.2 = 0 then (if bt191.1 = t180 then (some ((decide (t184 < 0)) == (decide (t180 < 0)))) else (some false)) else (some false)) else (some false)) else (if bt189.2 = 0 then (if bt191.2 = 0 then (if bt191.1 = t180 then (if t181 > (wrap64 (-t184)) then (some ((decide (t184 < 0)) == (decide (t180 < 0)))) else (some false)) else (some false)) else (some false)) else (some false))) else (if bt189.2 = 0 then (if bt191.2 = 0 then (if bt191.1 = t180 then (some false) else (some false)) else (some false)) else (some false))))))) = some true := by rw [if_neg (show ¬ (false = true) by decide)] at H; first | done | exact H
          clear H
          have H := H1
          clear H1
          replace H := Option.bind_eq_some_iff.mp H
          obtain ⟨⟨t189, t190⟩, A190, H⟩ := H
          replace H : ((impl_NumAdd.f t189 t184).bind fun bt191 => (if t184 = 0 then (if t190 = 0 then (if bt191.2 = 0 then (if bt191.1 = t180 then (some true) else (some false)) else (some false)) else (some false)) else (if t184 > 0 then (if t181 > t184 then (if t190 = 0 then (if bt191.2 = 0 then (if bt191.1 = t180 then (some ((decide (t184 < 0)) == (decide (t180 < 0)))) else (some false)) else (some false)) else (some false)) else (if t181 < (wrap64 (-t184)) then (if t190 = 0 then (if bt191.2 = 0 then (if bt191.1 = t180 then (some ((decide (t184 < 0)) == (decide (t180 < 0)))) else (some false)) else (some false)) else (some false)) else (if t184 < 0 then (if t181 < t184 then (if t190 = 0 then (if bt191.2 = 0 then (if bt191.1 = t180 then (some ((decide (t184 < 0)) == (decide (t180 < 0)))) else (some false)) else (some false)) else (some false)) else (if t190 = 0 then (if bt191.2 = 0 then (if bt191.1 = t180 then (if t181 > (wrap64 (-t184)) then (some ((decide (t184 < 0)) == (decide (t180 < 0)))) else (some false)) else (some false)) else (some false)) else (some false))) else (if t190 = 0 then (if bt191.2 = 0 then (if bt191.1 = t180 then (some false) else (some false)) else (some false)) else (some false))))) else (if t184 < 0 then (if t181 < t184 then (if t190 = 0 then (if bt191.2 = 0 then (if bt191.1 = t180 then (some ((decide (t184 < 0)) == (decide (t180 < 0)))) else (some false)) else (some false)) else (some false)) else (if t190 = 0 then (if bt191.2 = 0 then (if bt191.1 = t180 then (if t181 > (wrap64 (-t184)) then (some ((decide (t184 < 0)) == (decide (t180 < 0)))) else (some false)) else (some false)) else (some false)) else (some false))) else (if t190 = 0 then (if bt191.2 = 0 then (if bt191.1 = t180 then (some false) else (some false)) else (some false)) else (some false)))))) = some true := H
          have A19 := Aside0.mk A190
          clear A190
          replace H := Option.bind_eq_some_iff.mp H
          obtain ⟨⟨t191, t192⟩, A200, H⟩ := H
          replace H : (if t184 = 0 then (if t190 = 0 then (if t192 = 0 then (if t191 = t180 then (some true) else (some false)) else (some false)) else (some false)) else (if t184 > 0 then (if t181 > t184 then (if t190 = 0 then (if t192 = 0 then (if t191 = t180 then (some ((decide (t184 < 0)) == (decide (t180 < 0)))) else (some false)) else (some false)) else (some false)) else (if t181 < (wrap64 (-t184)) then (if t190 = 0 then (if t192 = 0 then (if t191 = t180 then (some ((decide (t184 < 0)) == (decide (t180 < 0)))) else (some false)) else (some false)) else (some false)) else (if t184 < 0 then (if t181 < t184 then (if t190 = 0 then (if t192 = 0 then (if t191 = t180 then (some ((decide (t184 < 0)) == (decide (t180 < 0)))) else (some false)) else (some false)) else (some false)) else (if t190 = 0 then (if t192 = 0 then (if t191 = t180 then (if t181 > (wrap64 (-t184)) then (some ((decide (t184 < 0)) == (decide (t180 < 0)))) else (some false)) else (some false)) else (some false)) else (some false))) else (if t190 = 0 then (if t192 = 0 then (if t191 = t180 then (some false) else (some false)) else (some false)) else (some false))))) else (if t184 < 0 then (if t181 < t184 then (if t190 = 0 then (if t192 = 0 then (if t191 = t180 then (some ((decide (t184 < 0)) == (decide (t180 < 0)))) else (some false)) else (some false)) else (some false)) else (if t190 = 0 then (if t192 = 0 then (if t191 = t180 then (if t181 > (wrap64 (-t184)) then (some ((decide (t184 < 0)) == (decide (t180 < 0)))) else (some false)) else (some false)) else (some false)) else (some false))) else (if t190 = 0 then (if t192 = 0 then (if t191 = t180 then (some false) else (some false)) else (some false)) else (some false))))) = some true := H
          have A20 := Aside0.mk A200
          clear A200
          by_cases c21 : t184 = 0
          · rw [if_pos c21] at H
            have c21b0 : (t184 == 0) = true := beq_iff_eq.mpr c21
            have c21b1 : (t184 != 0) = false := bne_eq_false_iff_eq.mpr c21
            clear c21
            by_cases c22 : t190 = 0
            · rw [if_pos c22] at H
              have c22b0 : (t190 == 0) = true := beq_iff_eq.mpr c22
              have c22b1 : (t190 != 0) = false := bne_eq_false_iff_eq.mpr c22
              clear c22
              by_cases c23 : t192 = 0
              · rw [if_pos c23] at H
                have c23b0 : (t192 == 0) = true := beq_iff_eq.mpr c23
                have c23b1 : (t192 != 0) = false := bne_eq_false_iff_eq.mpr c23
                clear c23
                by_cases c24 : t191 = t180
                · rw [if_pos c24] at H
                  have c24b0 : (t191 == t180) = true := beq_iff_eq.mpr c24
                  have c24b1 : (t191 != t180) = false := bne_eq_false_iff_eq.mpr c24
                  clear c24
                  have HE_ := Aside0.mk (Option.some.inj H)
                  clear H
                  go_wp2_with (first | ((with_reducible refine gate_callee (f := 17) rfl ?_); refine goesL_ (some 78) rfl rfl Try.func17 (by kernel_rfl) rfl #[.int .i64 t182, .int .i64 t181] rfl (by (try simp only [List.map_toArray, List.map_cons, List.map_nil]); first | done | rfl | (simp only [List.length_drop, List.length_take]; rfl)) ?_; (with_reducible refine (impl_NumMul.calls t182 t181 t189 t190 _ A19.out).mono ?_); rintro e w' ⟨rfl, ⟨nd, rfl⟩⟩; refine ⟨_, rfl, ?_⟩) | ((with_reducible refine gate_callee (f := 15) rfl ?_); refine goesL_ (some 84) rfl rfl Try.func15 (by kernel_rfl) rfl #[.int .i64 t189, .int .i64 t184] rfl (by (try simp only [List.map_toArray, List.map_cons, List.map_nil]); first | done | rfl | (simp only [List.length_drop, List.length_take]; rfl)) ?_; (with_reducible refine (impl_NumAdd.calls t189 t184 t191 t192 _ A20.out).mono ?_); rintro e w' ⟨rfl, ⟨nd, rfl⟩⟩; refine ⟨_, rfl, ?_⟩))
                  go_ret
                  exact ⟨by first | rfl | exact congrArg (fun b_ => Ending.returned (Value.bool b_)) HE_.out | (refine absurd HE_.out ?_; simp [*]; done) | (have h_ := HE_.out; clear HE_; simp_all; done) | (have h_ := HE_.out; clear HE_; simp_all; omega) | (simp [errW_none, errW_some] <;> rfl) | (simp [*, errW_none, errW_some] <;> rfl), by repeat (first | (with_reducible first | exact HB.out | apply below_alloc | apply pw_below_drewN | apply below_drew1) | exact HB.out)⟩
                · rw [if_neg c24] at H
                  have c24b0 : (t191 == t180) = false := beq_eq_false_iff_ne.mpr c24
                  have c24b1 : (t191 != t180) = true := bne_iff_ne.mpr c24
                  exact absurd (Option.some.inj H) (by decide)
              · rw [if_neg c23] at H
                have c23b0 : (t192 == 0) = false := beq_eq_false_iff_ne.mpr c23
                have c23b1 : (t192 != 0) = true := bne_iff_ne.mpr c23
                exact absurd (Option.some.inj H) (by decide)
            · rw [if_neg c22] at H
              have c22b0 : (t190 == 0) = false := beq_eq_false_iff_ne.mpr c22
              have c22b1 : (t190 != 0) = true := bne_iff_ne.mpr c22
              exact absurd (Option.some.inj H) (by decide)
          · rw [if_neg c21] at H
            have c21b0 : (t184 == 0) = false := beq_eq_false_iff_ne.mpr c21
            have c21b1 : (t184 != 0) = true := bne_iff_ne.mpr c21
            by_cases c25 : t184 > 0
            · rw [if_pos c25] at H
              have c25b0 : decide (0 < t184) = true := decide_eq_true c25
              clear c25
              by_cases c26 : t181 > t184
              · rw [if_pos c26] at H
                have c26b0 : decide (t184 < t181) = true := decide_eq_true c26
                clear c26
                by_cases c27 : t190 = 0
                · rw [if_pos c27] at H
                  have c27b0 : (t190 == 0) = true := beq_iff_eq.mpr c27
                  have c27b1 : (t190 != 0) = false := bne_eq_false_iff_eq.mpr c27
                  clear c27
                  by_cases c28 : t192 = 0
                  · rw [if_pos c28] at H
                    have c28b0 : (t192 == 0) = true := beq_iff_eq.mpr c28
                    have c28b1 : (t192 != 0) = false := bne_eq_false_iff_eq.mpr c28
                    clear c28
                    by_cases c29 : t191 = t180
                    · rw [if_pos c29] at H
                      have c29b0 : (t191 == t180) = true := beq_iff_eq.mpr c29
                      have c29b1 : (t191 != t180) = false := bne_eq_false_iff_eq.mpr c29
                      clear c29
                      have HE_ := Aside0.mk (Option.some.inj H)
                      clear H
                      go_wp2_with (first | ((with_reducible refine gate_callee (f := 17) rfl ?_); refine goesL_ (some 78) rfl rfl Try.func17 (by kernel_rfl) rfl #[.int .i64 t182, .int .i64 t181] rfl (by (try simp only [List.map_toArray, List.map_cons, List.map_nil]); first | done | rfl | (simp only [List.length_drop, List.length_take]; rfl)) ?_; (with_reducible refine (impl_NumMul.calls t182 t181 t189 t190 _ A19.out).mono ?_); rintro e w' ⟨rfl, ⟨nd, rfl⟩⟩; refine ⟨_, rfl, ?_⟩) | ((with_reducible refine gate_callee (f := 15) rfl ?_); refine goesL_ (some 84) rfl rfl Try.func15 (by kernel_rfl) rfl #[.int .i64 t189, .int .i64 t184] rfl (by (try simp only [List.map_toArray, List.map_cons, List.map_nil]); first | done | rfl | (simp only [List.length_drop, List.length_take]; rfl)) ?_; (with_reducible refine (impl_NumAdd.calls t189 t184 t191 t192 _ A20.out).mono ?_); rintro e w' ⟨rfl, ⟨nd, rfl⟩⟩; refine ⟨_, rfl, ?_⟩))
                      go_ret
                      exact ⟨by first | rfl | exact congrArg (fun b_ => Ending.returned (Value.bool b_)) HE_.out | (refine absurd HE_.out ?_; simp [*]; done) | (have h_ := HE_.out; clear HE_; simp_all; done) | (have h_ := HE_.out; clear HE_; simp_all; omega) | (simp [errW_none, errW_some] <;> rfl) | (simp [*, errW_none, errW_some] <;> rfl), by repeat (first | (with_reducible first | exact HB.out | apply below_alloc | apply pw_below_drewN | apply below_drew1) | exact HB.out)⟩
                    · rw [if_neg c29] at H
                      have c29b0 : (t191 == t180) = false := beq_eq_false_iff_ne.mpr c29
                      have c29b1 : (t191 != t180) = true := bne_iff_ne.mpr c29
                      exact absurd (Option.some.inj H) (by decide)
                  · rw [if_neg c28] at H
                    have c28b0 : (t192 == 0) = false := beq_eq_false_iff_ne.mpr c28
                    have c28b1 : (t192 != 0) = true := bne_iff_ne.mpr c28
                    exact absurd (Option.some.inj H) (by decide)
                · rw [if_neg c27] at H
                  have c27b0 : (t190 == 0) = false := beq_eq_false_iff_ne.mpr c27
                  have c27b1 : (t190 != 0) = true := bne_iff_ne.mpr c27
                  exact absurd (Option.some.inj H) (by decide)
              · rw [if_neg c26] at H
                have c26b0 : decide (t184 < t181) = false := decide_eq_false c26
                clear c26
                by_cases c30 : t181 < (wrap64 (-t184))
                · rw [if_pos c30] at H
                  have c30b0 : decide (t181 < (wrap64 (-t184))) = true := decide_eq_true c30
                  clear c30
                  by_cases c31 : t190 = 0
                  · rw [if_pos c31] at H
                    have c31b0 : (t190 == 0) = true := beq_iff_eq.mpr c31
                    have c31b1 : (t190 != 0) = false := bne_eq_false_iff_eq.mpr c31
                    clear c31
                    by_cases c32 : t192 = 0
                    · rw [if_pos c32] at H
                      have c32b0 : (t192 == 0) = true := beq_iff_eq.mpr c32
                      have c32b1 : (t192 != 0) = false := bne_eq_false_iff_eq.mpr c32
                      clear c32
                      by_cases c33 : t191 = t180
                      · rw [if_pos c33] at H
                        have c33b0 : (t191 == t180) = true := beq_iff_eq.mpr c33
                        have c33b1 : (t191 != t180) = false := bne_eq_false_iff_eq.mpr c33
                        clear c33
                        have HE_ := Aside0.mk (Option.some.inj H)
                        clear H
                        go_wp2_with (first | ((with_reducible refine gate_callee (f := 17) rfl ?_); refine goesL_ (some 78) rfl rfl Try.func17 (by kernel_rfl) rfl #[.int .i64 t182, .int .i64 t181] rfl (by (try simp only [List.map_toArray, List.map_cons, List.map_nil]); first | done | rfl | (simp only [List.length_drop, List.length_take]; rfl)) ?_; (with_reducible refine (impl_NumMul.calls t182 t181 t189 t190 _ A19.out).mono ?_); rintro e w' ⟨rfl, ⟨nd, rfl⟩⟩; refine ⟨_, rfl, ?_⟩) | ((with_reducible refine gate_callee (f := 15) rfl ?_); refine goesL_ (some 84) rfl rfl Try.func15 (by kernel_rfl) rfl #[.int .i64 t189, .int .i64 t184] rfl (by (try simp only [List.map_toArray, List.map_cons, List.map_nil]); first | done | rfl | (simp only [List.length_drop, List.length_take]; rfl)) ?_; (with_reducible refine (impl_NumAdd.calls t189 t184 t191 t192 _ A20.out).mono ?_); rintro e w' ⟨rfl, ⟨nd, rfl⟩⟩; refine ⟨_, rfl, ?_⟩))
                        go_ret
                        exact ⟨by first | rfl | exact congrArg (fun b_ => Ending.returned (Value.bool b_)) HE_.out | (refine absurd HE_.out ?_; simp [*]; done) | (have h_ := HE_.out; clear HE_; simp_all; done) | (have h_ := HE_.out; clear HE_; simp_all; omega) | (simp [errW_none, errW_some] <;> rfl) | (simp [*, errW_none, errW_some] <;> rfl), by repeat (first | (with_reducible first | exact HB.out | apply below_alloc | apply pw_below_drewN | apply below_drew1) | exact HB.out)⟩
                      · rw [if_neg c33] at H
                        have c33b0 : (t191 == t180) = false := beq_eq_false_iff_ne.mpr c33
                        have c33b1 : (t191 != t180) = true := bne_iff_ne.mpr c33
                        exact absurd (Option.some.inj H) (by decide)
                    · rw [if_neg c32] at H
                      have c32b0 : (t192 == 0) = false := beq_eq_false_iff_ne.mpr c32
                      have c32b1 : (t192 != 0) = true := bne_iff_ne.mpr c32
                      exact absurd (Option.some.inj H) (by decide)
                  · rw [if_neg c31] at H
                    have c31b0 : (t190 == 0) = false := beq_eq_false_iff_ne.mpr c31
                    have c31b1 : (t190 != 0) = true := bne_iff_ne.mpr c31
                    exact absurd (Option.some.inj H) (by decide)
                · rw [if_neg c30] at H
                  have c30b0 : decide (t181 < (wrap64 (-t184))) = false := decide_eq_false c30
                  clear c30
                  by_cases c34 : t184 < 0
                  · rw [if_pos c34] at H
                    have c34b0 : decide (t184 < 0) = true := decide_eq_true c34
                    clear c34
                    by_cases c35 : t181 < t184
                    · rw [if_pos c35] at H
                      have c35b0 : decide (t181 < t184) = true := decide_eq_true c35
                      clear c35
                      by_cases c36 : t190 = 0
                      · rw [if_pos c36] at H
                        have c36b0 : (t190 == 0) = true := beq_iff_eq.mpr c36
                        have c36b1 : (t190 != 0) = false := bne_eq_false_iff_eq.mpr c36
                        clear c36
                        by_cases c37 : t192 = 0
                        · rw [if_pos c37] at H
                          have c37b0 : (t192 == 0) = true := beq_iff_eq.mpr c37
                          have c37b1 : (t192 != 0) = false := bne_eq_false_iff_eq.mpr c37
                          clear c37
                          by_cases c38 : t191 = t180
                          · rw [if_pos c38] at H
                            have c38b0 : (t191 == t180) = true := beq_iff_eq.mpr c38
                            have c38b1 : (t191 != t180) = false := bne_eq_false_iff_eq.mpr c38
                            clear c38
                            have HE_ := Aside0.mk (Option.some.inj H)
                            clear H
                            go_wp2_with (first | ((with_reducible refine gate_callee (f := 17) rfl ?_); refine goesL_ (some 78) rfl rfl Try.func17 (by kernel_rfl) rfl #[.int .i64 t182, .int .i64 t181] rfl (by (try simp only [List.map_toArray, List.map_cons, List.map_nil]); first | done | rfl | (simp only [List.length_drop, List.length_take]; rfl)) ?_; (with_reducible refine (impl_NumMul.calls t182 t181 t189 t190 _ A19.out).mono ?_); rintro e w' ⟨rfl, ⟨nd, rfl⟩⟩; refine ⟨_, rfl, ?_⟩) | ((with_reducible refine gate_callee (f := 15) rfl ?_); refine goesL_ (some 84) rfl rfl Try.func15 (by kernel_rfl) rfl #[.int .i64 t189, .int .i64 t184] rfl (by (try simp only [List.map_toArray, List.map_cons, List.map_nil]); first | done | rfl | (simp only [List.length_drop, List.length_take]; rfl)) ?_; (with_reducible refine (impl_NumAdd.calls t189 t184 t191 t192 _ A20.out).mono ?_); rintro e w' ⟨rfl, ⟨nd, rfl⟩⟩; refine ⟨_, rfl, ?_⟩))
                            go_ret
                            exact ⟨by first | rfl | exact congrArg (fun b_ => Ending.returned (Value.bool b_)) HE_.out | (refine absurd HE_.out ?_; simp [*]; done) | (have h_ := HE_.out; clear HE_; simp_all; done) | (have h_ := HE_.out; clear HE_; simp_all; omega) | (simp [errW_none, errW_some] <;> rfl) | (simp [*, errW_none, errW_some] <;> rfl), by repeat (first | (with_reducible first | exact HB.out | apply below_alloc | apply pw_below_drewN | apply below_drew1) | exact HB.out)⟩
                          · rw [if_neg c38] at H
                            have c38b0 : (t191 == t180) = false := beq_eq_false_iff_ne.mpr c38
                            have c38b1 : (t191 != t180) = true := bne_iff_ne.mpr c38
                            exact absurd (Option.some.inj H) (by decide)
                        · rw [if_neg c37] at H
                          have c37b0 : (t192 == 0) = false := beq_eq_false_iff_ne.mpr c37
                          have c37b1 : (t192 != 0) = true := bne_iff_ne.mpr c37
                          exact absurd (Option.some.inj H) (by decide)
                      · rw [if_neg c36] at H
                        have c36b0 : (t190 == 0) = false := beq_eq_false_iff_ne.mpr c36
                        have c36b1 : (t190 != 0) = true := bne_iff_ne.mpr c36
                        exact absurd (Option.some.inj H) (by decide)
                    · rw [if_neg c35] at H
                      have c35b0 : decide (t181 < t184) = false := decide_eq_false c35
                      clear c35
                      by_cases c39 : t190 = 0
                      · rw [if_pos c39] at H
                        have c39b0 : (t190 == 0) = true := beq_iff_eq.mpr c39
                        have c39b1 : (t190 != 0) = false := bne_eq_false_iff_eq.mpr c39
                        clear c39
                        by_cases c40 : t192 = 0
                        · rw [if_pos c40] at H
                          have c40b0 : (t192 == 0) = true := beq_iff_eq.mpr c40
                          have c40b1 : (t192 != 0) = false := bne_eq_false_iff_eq.mpr c40
                          clear c40
                          by_cases c41 : t191 = t180
                          · rw [if_pos c41] at H
                            have c41b0 : (t191 == t180) = true := beq_iff_eq.mpr c41
                            have c41b1 : (t191 != t180) = false := bne_eq_false_iff_eq.mpr c41
                            clear c41
                            by_cases c42 : t181 > (wrap64 (-t184))
                            · rw [if_pos c42] at H
                              have c42b0 : decide ((wrap64 (-t184)) < t181) = true := decide_eq_true c42
                              clear c42
                              have HE_ := Aside0.mk (Option.some.inj H)
                              clear H
                              go_wp2_with (first | ((with_reducible refine gate_callee (f := 17) rfl ?_); refine goesL_ (some 78) rfl rfl Try.func17 (by kernel_rfl) rfl #[.int .i64 t182, .int .i64 t181] rfl (by (try simp only [List.map_toArray, List.map_cons, List.map_nil]); first | done | rfl | (simp only [List.length_drop, List.length_take]; rfl)) ?_; (with_reducible refine (impl_NumMul.calls t182 t181 t189 t190 _ A19.out).mono ?_); rintro e w' ⟨rfl, ⟨nd, rfl⟩⟩; refine ⟨_, rfl, ?_⟩) | ((with_reducible refine gate_callee (f := 15) rfl ?_); refine goesL_ (some 84) rfl rfl Try.func15 (by kernel_rfl) rfl #[.int .i64 t189, .int .i64 t184] rfl (by (try simp only [List.map_toArray, List.map_cons, List.map_nil]); first | done | rfl | (simp only [List.length_drop, List.length_take]; rfl)) ?_; (with_reducible refine (impl_NumAdd.calls t189 t184 t191 t192 _ A20.out).mono ?_); rintro e w' ⟨rfl, ⟨nd, rfl⟩⟩; refine ⟨_, rfl, ?_⟩))
                              go_ret
                              exact ⟨by first | rfl | exact congrArg (fun b_ => Ending.returned (Value.bool b_)) HE_.out | (refine absurd HE_.out ?_; simp [*]; done) | (have h_ := HE_.out; clear HE_; simp_all; done) | (have h_ := HE_.out; clear HE_; simp_all; omega) | (simp [errW_none, errW_some] <;> rfl) | (simp [*, errW_none, errW_some] <;> rfl), by repeat (first | (with_reducible first | exact HB.out | apply below_alloc | apply pw_below_drewN | apply below_drew1) | exact HB.out)⟩
                            · rw [if_neg c42] at H
                              have c42b0 : decide ((wrap64 (-t184)) < t181) = false := decide_eq_false c42
                              clear c42
                              exact absurd (Option.some.inj H) (by decide)
                          · rw [if_neg c41] at H
                            have c41b0 : (t191 == t180) = false := beq_eq_false_iff_ne.mpr c41
                            have c41b1 : (t191 != t180) = true := bne_iff_ne.mpr c41
                            exact absurd (Option.some.inj H) (by decide)
                        · rw [if_neg c40] at H
                          have c40b0 : (t192 == 0) = false := beq_eq_false_iff_ne.mpr c40
                          have c40b1 : (t192 != 0) = true := bne_iff_ne.mpr c40
                          exact absurd (Option.some.inj H) (by decide)
                      · rw [if_neg c39] at H
                        have c39b0 : (t190 == 0) = false := beq_eq_false_iff_ne.mpr c39
                        have c39b1 : (t190 != 0) = true := bne_iff_ne.mpr c39
                        exact absurd (Option.some.inj H) (by decide)
                  · rw [if_neg c34] at H
                    have c34b0 : decide (t184 < 0) = false := decide_eq_false c34
                    clear c34
                    by_cases c43 : t190 = 0
                    · rw [if_pos c43] at H
                      have c43b0 : (t190 == 0) = true := beq_iff_eq.mpr c43
                      have c43b1 : (t190 != 0) = false := bne_eq_false_iff_eq.mpr c43
                      clear c43
                      by_cases c44 : t192 = 0
                      · rw [if_pos c44] at H
                        have c44b0 : (t192 == 0) = true := beq_iff_eq.mpr c44
                        have c44b1 : (t192 != 0) = false := bne_eq_false_iff_eq.mpr c44
                        clear c44
                        by_cases c45 : t191 = t180
                        · rw [if_pos c45] at H
                          have c45b0 : (t191 == t180) = true := beq_iff_eq.mpr c45
                          have c45b1 : (t191 != t180) = false := bne_eq_false_iff_eq.mpr c45
                          clear c45
                          exact absurd (Option.some.inj H) (by decide)
                        · rw [if_neg c45] at H
                          have c45b0 : (t191 == t180) = false := beq_eq_false_iff_ne.mpr c45
                          have c45b1 : (t191 != t180) = true := bne_iff_ne.mpr c45
                          exact absurd (Option.some.inj H) (by decide)
                      · rw [if_neg c44] at H
                        have c44b0 : (t192 == 0) = false := beq_eq_false_iff_ne.mpr c44
                        have c44b1 : (t192 != 0) = true := bne_iff_ne.mpr c44
                        exact absurd (Option.some.inj H) (by decide)
                    · rw [if_neg c43] at H
                      have c43b0 : (t190 == 0) = false := beq_eq_false_iff_ne.mpr c43
                      have c43b1 : (t190 != 0) = true := bne_iff_ne.mpr c43
                      exact absurd (Option.some.inj H) (by decide)
            · rw [if_neg c25] at H
              have c25b0 : decide (0 < t184) = false := decide_eq_false c25
              clear c25
              by_cases c46 : t184 < 0
              · rw [if_pos c46] at H
                have c46b0 : decide (t184 < 0) = true := decide_eq_true c46
                clear c46
                by_cases c47 : t181 < t184
                · rw [if_pos c47] at H
                  have c47b0 : decide (t181 < t184) = true := decide_eq_true c47
                  clear c47
                  by_cases c48 : t190 = 0
                  · rw [if_pos c48] at H
                    have c48b0 : (t190 == 0) = true := beq_iff_eq.mpr c48
                    have c48b1 : (t190 != 0) = false := bne_eq_false_iff_eq.mpr c48
                    clear c48
                    by_cases c49 : t192 = 0
                    · rw [if_pos c49] at H
                      have c49b0 : (t192 == 0) = true := beq_iff_eq.mpr c49
                      have c49b1 : (t192 != 0) = false := bne_eq_false_iff_eq.mpr c49
                      clear c49
                      by_cases c50 : t191 = t180
                      · rw [if_pos c50] at H
                        have c50b0 : (t191 == t180) = true := beq_iff_eq.mpr c50
                        have c50b1 : (t191 != t180) = false := bne_eq_false_iff_eq.mpr c50
                        clear c50
                        have HE_ := Aside0.mk (Option.some.inj H)
                        clear H
                        go_wp2_with (first | ((with_reducible refine gate_callee (f := 17) rfl ?_); refine goesL_ (some 78) rfl rfl Try.func17 (by kernel_rfl) rfl #[.int .i64 t182, .int .i64 t181] rfl (by (try simp only [List.map_toArray, List.map_cons, List.map_nil]); first | done | rfl | (simp only [List.length_drop, List.length_take]; rfl)) ?_; (with_reducible refine (impl_NumMul.calls t182 t181 t189 t190 _ A19.out).mono ?_); rintro e w' ⟨rfl, ⟨nd, rfl⟩⟩; refine ⟨_, rfl, ?_⟩) | ((with_reducible refine gate_callee (f := 15) rfl ?_); refine goesL_ (some 84) rfl rfl Try.func15 (by kernel_rfl) rfl #[.int .i64 t189, .int .i64 t184] rfl (by (try simp only [List.map_toArray, List.map_cons, List.map_nil]); first | done | rfl | (simp only [List.length_drop, List.length_take]; rfl)) ?_; (with_reducible refine (impl_NumAdd.calls t189 t184 t191 t192 _ A20.out).mono ?_); rintro e w' ⟨rfl, ⟨nd, rfl⟩⟩; refine ⟨_, rfl, ?_⟩))
                        go_ret
                        exact ⟨by first | rfl | exact congrArg (fun b_ => Ending.returned (Value.bool b_)) HE_.out | (refine absurd HE_.out ?_; simp [*]; done) | (have h_ := HE_.out; clear HE_; simp_all; done) | (have h_ := HE_.out; clear HE_; simp_all; omega) | (simp [errW_none, errW_some] <;> rfl) | (simp [*, errW_none, errW_some] <;> rfl), by repeat (first | (with_reducible first | exact HB.out | apply below_alloc | apply pw_below_drewN | apply below_drew1) | exact HB.out)⟩
                      · rw [if_neg c50] at H
                        have c50b0 : (t191 == t180) = false := beq_eq_false_iff_ne.mpr c50
                        have c50b1 : (t191 != t180) = true := bne_iff_ne.mpr c50
                        exact absurd (Option.some.inj H) (by decide)
                    · rw [if_neg c49] at H
                      have c49b0 : (t192 == 0) = false := beq_eq_false_iff_ne.mpr c49
                      have c49b1 : (t192 != 0) = true := bne_iff_ne.mpr c49
                      exact absurd (Option.some.inj H) (by decide)
                  · rw [if_neg c48] at H
                    have c48b0 : (t190 == 0) = false := beq_eq_false_iff_ne.mpr c48
                    have c48b1 : (t190 != 0) = true := bne_iff_ne.mpr c48
                    exact absurd (Option.some.inj H) (by decide)
                · rw [if_neg c47] at H
                  have c47b0 : decide (t181 < t184) = false := decide_eq_false c47
                  clear c47
                  by_cases c51 : t190 = 0
                  · rw [if_pos c51] at H
                    have c51b0 : (t190 == 0) = true := beq_iff_eq.mpr c51
                    have c51b1 : (t190 != 0) = false := bne_eq_false_iff_eq.mpr c51
                    clear c51
                    by_cases c52 : t192 = 0
                    · rw [if_pos c52] at H
                      have c52b0 : (t192 == 0) = true := beq_iff_eq.mpr c52
                      have c52b1 : (t192 != 0) = false := bne_eq_false_iff_eq.mpr c52
                      clear c52
                      by_cases c53 : t191 = t180
                      · rw [if_pos c53] at H
                        have c53b0 : (t191 == t180) = true := beq_iff_eq.mpr c53
                        have c53b1 : (t191 != t180) = false := bne_eq_false_iff_eq.mpr c53
                        clear c53
                        by_cases c54 : t181 > (wrap64 (-t184))
                        · rw [if_pos c54] at H
                          have c54b0 : decide ((wrap64 (-t184)) < t181) = true := decide_eq_true c54
                          clear c54
                          have HE_ := Aside0.mk (Option.some.inj H)
                          clear H
                          go_wp2_with (first | ((with_reducible refine gate_callee (f := 17) rfl ?_); refine goesL_ (some 78) rfl rfl Try.func17 (by kernel_rfl) rfl #[.int .i64 t182, .int .i64 t181] rfl (by (try simp only [List.map_toArray, List.map_cons, List.map_nil]); first | done | rfl | (simp only [List.length_drop, List.length_take]; rfl)) ?_; (with_reducible refine (impl_NumMul.calls t182 t181 t189 t190 _ A19.out).mono ?_); rintro e w' ⟨rfl, ⟨nd, rfl⟩⟩; refine ⟨_, rfl, ?_⟩) | ((with_reducible refine gate_callee (f := 15) rfl ?_); refine goesL_ (some 84) rfl rfl Try.func15 (by kernel_rfl) rfl #[.int .i64 t189, .int .i64 t184] rfl (by (try simp only [List.map_toArray, List.map_cons, List.map_nil]); first | done | rfl | (simp only [List.length_drop, List.length_take]; rfl)) ?_; (with_reducible refine (impl_NumAdd.calls t189 t184 t191 t192 _ A20.out).mono ?_); rintro e w' ⟨rfl, ⟨nd, rfl⟩⟩; refine ⟨_, rfl, ?_⟩))
                          go_ret
                          exact ⟨by first | rfl | exact congrArg (fun b_ => Ending.returned (Value.bool b_)) HE_.out | (refine absurd HE_.out ?_; simp [*]; done) | (have h_ := HE_.out; clear HE_; simp_all; done) | (have h_ := HE_.out; clear HE_; simp_all; omega) | (simp [errW_none, errW_some] <;> rfl) | (simp [*, errW_none, errW_some] <;> rfl), by repeat (first | (with_reducible first | exact HB.out | apply below_alloc | apply pw_below_drewN | apply below_drew1) | exact HB.out)⟩
                        · rw [if_neg c54] at H
                          have c54b0 : decide ((wrap64 (-t184)) < t181) = false := decide_eq_false c54
                          clear c54
                          exact absurd (Option.some.inj H) (by decide)
                      · rw [if_neg c53] at H
                        have c53b0 : (t191 == t180) = false := beq_eq_false_iff_ne.mpr c53
                        have c53b1 : (t191 != t180) = true := bne_iff_ne.mpr c53
                        exact absurd (Option.some.inj H) (by decide)
                    · rw [if_neg c52] at H
                      have c52b0 : (t192 == 0) = false := beq_eq_false_iff_ne.mpr c52
                      have c52b1 : (t192 != 0) = true := bne_iff_ne.mpr c52
                      exact absurd (Option.some.inj H) (by decide)
                  · rw [if_neg c51] at H
                    have c51b0 : (t190 == 0) = false := beq_eq_false_iff_ne.mpr c51
                    have c51b1 : (t190 != 0) = true := bne_iff_ne.mpr c51
                    exact absurd (Option.some.inj H) (by decide)
              · rw [if_neg c46] at H
                have c46b0 : decide (t184 < 0) = false := decide_eq_false c46
                clear c46
                by_cases c55 : t190 = 0
                · rw [if_pos c55] at H
                  have c55b0 : (t190 == 0) = true := beq_iff_eq.mpr c55
                  have c55b1 : (t190 != 0) = false := bne_eq_false_iff_eq.mpr c55
                  clear c55
                  by_cases c56 : t192 = 0
                  · rw [if_pos c56] at H
                    have c56b0 : (t192 == 0) = true := beq_iff_eq.mpr c56
                    have c56b1 : (t192 != 0) = false := bne_eq_false_iff_eq.mpr c56
                    clear c56
                    by_cases c57 : t191 = t180
                    · rw [if_pos c57] at H
                      have c57b0 : (t191 == t180) = true := beq_iff_eq.mpr c57
                      have c57b1 : (t191 != t180) = false := bne_eq_false_iff_eq.mpr c57
                      clear c57
                      exact absurd (Option.some.inj H) (by decide)
                    · rw [if_neg c57] at H
                      have c57b0 : (t191 == t180) = false := beq_eq_false_iff_ne.mpr c57
                      have c57b1 : (t191 != t180) = true := bne_iff_ne.mpr c57
                      exact absurd (Option.some.inj H) (by decide)
                  · rw [if_neg c56] at H
                    have c56b0 : (t192 == 0) = false := beq_eq_false_iff_ne.mpr c56
                    have c56b1 : (t192 != 0) = true := bne_iff_ne.mpr c56
                    exact absurd (Option.some.inj H) (by decide)
                · rw [if_neg c55] at H
                  have c55b0 : (t190 == 0) = false := beq_eq_false_iff_ne.mpr c55
                  have c55b1 : (t190 != 0) = true := bne_iff_ne.mpr c55
                  exact absurd (Option.some.inj H) (by decide)

end Go.Proofs.Ytblgpjllgadibaa.Q
