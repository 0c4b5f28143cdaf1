-- Contracts of the program's functions, each with the plain function that it computes.
import Derived.Test.YtdjhalelgknnkaaQx0
import Derived.Test.YtdjhalelgknnkaaQx1
import Derived.Test.YtdjhalelgknnkaaQx2
import Derived.Test.YtdjhalelgknnkaaQx9
import Derived.Test.YtdjhalelgknnkaaQx11
import Derived.Test.YtdjhalelgknnkaaQx36
import Derived.Test.YtdjhalelgknnkaaQx37
import Derived.Test.YtdjhalelgknnkaaQx40
import Derived.Test.YtdjhalelgknnkaaQx41
namespace Go.Proofs.Ytdjhalelgknnkaa.Q
open Go.RowKit Go.Proofs.YtdjhalelgknnkaaW.PrintWords Go.Proofs.YtdjhalelgknnkaaW.PrintLast Go.Proofs.YtdjhalelgknnkaaW.PrintMore
attribute [local go_sem] max2_int min2_int max_two min_two max_three min_three max_four min_four   -- for this text's walks alone
set_option linter.unusedVariables false
set_option linter.unusedSimpArgs false

attribute [local go_sem high] eqA28
/-! ### laws_FnIvSound: function 6 -/
mutual
def laws_FnIvSound.j0 : Nat → List Int → Int → Bool → Int → Int → Int → Int → Int → Int → Bool → Int → Int → Int → Bool → Int → Option (Bool)
 | 0, _, _, _, _, _, _, _, _, _, _, _, _, _, _, _ => none
 | k + 1, x0, x5, x41, x450000, x450001, x451000, x451001, x461000, x461001, x461002, x461003, x462000, x462001, x462002, x462003 => if x41 = true then (some ((x461000 == x462000 && (x461001 == x462001)) && (x461002 == x462002 && (x461003 == x462003)))) else ((laws_within.f x450000 x450001 x0 1).bind fun t464 => ((laws_within.f x451000 x451001 x0 5).bind fun t465 => ((laws_num.f x5 t464 t465).bind fun bt466 => (if x5 ≥ 3 then (laws_FnIvSound.j1 k bt466.1 bt466.2 (t465 == 0) x461000 x461001 x461002 x461003) else (laws_FnIvSound.j1 k bt466.1 bt466.2 false x461000 x461001 x461002 x461003)))))
def laws_FnIvSound.j1 : Nat → Int → Int → Bool → Int → Int → Bool → Int → Option (Bool)
 | 0, _, _, _, _, _, _, _ => none
 | k + 1, x10, x11, x58, x461000, x461001, x461002, x461003 => if x58 = true then (some ((Go.bits .and .i64 x461003 1) != 0)) else (if x11 = 0 then (if x461002 = true then ((impl_IvHas.f x461000 x461001 x10).bind fun t468 => (some t468)) else (some false)) else (some ((Go.bits .and .i64 x461003 4) != 0)))
end
def laws_FnIvSound.f (k : Nat) (l0 : List Int) : Option (Bool) := (laws_big.f l0).bind fun t444 => (if t444 = true then (some true) else ((spec_DrawIvAdd.f k l0).bind fun bt445 => ((laws_byteOf.f l0 4).bind fun t451 => ((laws_op.f k (Int.tmod t451 5) bt445.1 bt445.2.1 bt445.2.2.1 bt445.2.2.2).bind fun bt452 => (if ((!(bt452.1 == bt452.2.2.2.2.1) || (!(bt452.2.1 == bt452.2.2.2.2.2.1))) || (!(bt452.2.2.1 == bt452.2.2.2.2.2.2.1) || (!(bt452.2.2.2.1 == bt452.2.2.2.2.2.2.2)))) = true then (laws_FnIvSound.j0 k l0 (Int.tmod t451 5) true bt445.1 bt445.2.1 bt445.2.2.1 bt445.2.2.2 bt452.1 bt452.2.1 bt452.2.2.1 bt452.2.2.2.1 bt452.2.2.2.2.1 bt452.2.2.2.2.2.1 bt452.2.2.2.2.2.2.1 bt452.2.2.2.2.2.2.2) else ((spec_IvOk.f bt445.1 bt445.2.1).bind fun t462 => (if t462 = true then ((spec_IvOk.f bt445.2.2.1 bt445.2.2.2).bind fun t463 => (laws_FnIvSound.j0 k l0 (Int.tmod t451 5) (!t463) bt445.1 bt445.2.1 bt445.2.2.1 bt445.2.2.2 bt452.1 bt452.2.1 bt452.2.2.1 bt452.2.2.2.1 bt452.2.2.2.2.1 bt452.2.2.2.2.2.1 bt452.2.2.2.2.2.2.1 bt452.2.2.2.2.2.2.2)) else (laws_FnIvSound.j0 k l0 (Int.tmod t451 5) true bt445.1 bt445.2.1 bt445.2.2.1 bt445.2.2.2 bt452.1 bt452.2.1 bt452.2.2.1 bt452.2.2.2.1 bt452.2.2.2.2.1 bt452.2.2.2.2.2.1 bt452.2.2.2.2.2.2.1 bt452.2.2.2.2.2.2.2))))))))
theorem laws_FnIvSound.mono_l : ∀ k, (∀ y0 y1 y2 y3 y4 y5 y6 y7 y8 y9 y10 y11 y12 y13 y14, LeO (laws_FnIvSound.j0 k y0 y1 y2 y3 y4 y5 y6 y7 y8 y9 y10 y11 y12 y13 y14) (laws_FnIvSound.j0 (k + 1) y0 y1 y2 y3 y4 y5 y6 y7 y8 y9 y10 y11 y12 y13 y14)) ∧ (∀ y0 y1 y2 y3 y4 y5 y6, LeO (laws_FnIvSound.j1 k y0 y1 y2 y3 y4 y5 y6) (laws_FnIvSound.j1 (k + 1) y0 y1 y2 y3 y4 y5 y6))
 | 0 => ⟨fun _ _ _ _ _ _ _ _ _ _ _ _ _ _ _ r h => by simp [laws_FnIvSound.j0] at h, fun _ _ _ _ _ _ _ r h => by simp [laws_FnIvSound.j1] at h⟩
 | k + 1 => by
  obtain ⟨ih0, ih1⟩ := laws_FnIvSound.mono_l k
  refine ⟨?_, ?_⟩
  ·intro y0 y1 y2 y3 y4 y5 y6 y7 y8 y9 y10 y11 y12 y13 y14
   unfold laws_FnIvSound.j0
   repeat' first
   | (with_reducible exact ih0 _ _ _ _ _ _ _ _ _ _ _ _ _ _ _)
   | (with_reducible exact ih1 _ _ _ _ _ _ _)
   | (with_reducible exact laws_op.mono _ _ _ _ _ _)
   | (with_reducible exact spec_DrawIvAdd.mono _ _)
   | (with_reducible exact LeO.refl _)
   | (with_reducible exact LeO.none _)
   | (with_reducible refine LeO.ite ?_ ?_)
   | (with_reducible refine LeO.bind ?_ (fun _ => ?_))
   | exact ih0 _ _ _ _ _ _ _ _ _ _ _ _ _ _ _
   | exact ih1 _ _ _ _ _ _ _
   | exact laws_op.mono _ _ _ _ _ _
   | exact spec_DrawIvAdd.mono _ _
   | exact LeO.none _
   | refine LeO.ite ?_ ?_
   | refine LeO.bind ?_ (fun _ => ?_)
  ·intro y0 y1 y2 y3 y4 y5 y6
   unfold laws_FnIvSound.j1
   repeat' first
   | (with_reducible exact ih0 _ _ _ _ _ _ _ _ _ _ _ _ _ _ _)
   | (with_reducible exact ih1 _ _ _ _ _ _ _)
   | (with_reducible exact laws_op.mono _ _ _ _ _ _)
   | (with_reducible exact spec_DrawIvAdd.mono _ _)
   | (with_reducible exact LeO.refl _)
   | (with_reducible exact LeO.none _)
   | (with_reducible refine LeO.ite ?_ ?_)
   | (with_reducible refine LeO.bind ?_ (fun _ => ?_))
   | exact ih0 _ _ _ _ _ _ _ _ _ _ _ _ _ _ _
   | exact ih1 _ _ _ _ _ _ _
   | exact laws_op.mono _ _ _ _ _ _
   | exact spec_DrawIvAdd.mono _ _
   | exact LeO.none _
   | refine LeO.ite ?_ ?_
   | refine LeO.bind ?_ (fun _ => ?_)
theorem laws_FnIvSound.mono : ∀ a0 k, LeO (laws_FnIvSound.f k a0) (laws_FnIvSound.f (k + 1) a0) := by
 intro a0 k
 obtain ⟨ih0, ih1⟩ := laws_FnIvSound.mono_l k
 unfold laws_FnIvSound.f
 repeat' first
   | (with_reducible exact ih0 _ _ _ _ _ _ _ _ _ _ _ _ _ _ _)
   | (with_reducible exact ih1 _ _ _ _ _ _ _)
   | (with_reducible exact laws_op.mono _ _ _ _ _ _)
   | (with_reducible exact spec_DrawIvAdd.mono _ _)
   | (with_reducible exact LeO.refl _)
   | (with_reducible exact LeO.none _)
   | (with_reducible refine LeO.ite ?_ ?_)
   | (with_reducible refine LeO.bind ?_ (fun _ => ?_))
   | exact ih0 _ _ _ _ _ _ _ _ _ _ _ _ _ _ _
   | exact ih1 _ _ _ _ _ _ _
   | exact laws_op.mono _ _ _ _ _ _
   | exact spec_DrawIvAdd.mono _ _
   | exact LeO.none _
   | refine LeO.ite ?_ ?_
   | refine LeO.bind ?_ (fun _ => ?_)
set_option maxHeartbeats 8000000 in
set_option maxRecDepth 100000 in
theorem laws_FnIvSound.calls (k : Nat) (A0 : Option Addr) (c0 : Nat) (l0 : List Int) (w : World) (hr0 : Kd.C (Kd.int .u8) w A0 l0.length l0) (hc0 : l0.length ≤ c0) (h : laws_FnIvSound.f k l0 = some true) :
  Calls Try.prog 6 #[.slice A0 l0.length c0] w fun e w' => e = .returned (.bool true) ∧ Below w.heap.size w w' := by
 have hu25 := Try.underlying25
 have hu28 := Try.underlying28
 have HR0 := Aside0.mk hr0
 have HC0 := Aside0.mk hc0
 clear hr0 hc0
 have HB := Aside0.mk (Below.refl w.heap.size w)
 have H : ((laws_big.f l0).bind fun t444 => (if t444 = true then (some true) else ((spec_DrawIvAdd.f k l0).bind fun bt445 => ((laws_byteOf.f l0 4).bind fun t451 => ((laws_op.f k (Int.tmod t451 5) bt445.1 bt445.2.1 bt445.2.2.1 bt445.2.2.2).bind fun bt452 => (if ((!(bt452.1 == bt452.2.2.2.2.1) || (!(bt452.2.1 == bt452.2.2.2.2.2.1))) || (!(bt452.2.2.1 == bt452.2.2.2.2.2.2.1) || (!(bt452.2.2.2.1 == bt452.2.2.2.2.2.2.2)))) = true then (laws_FnIvSound.j0 k l0 (Int.tmod t451 5) true bt445.1 bt445.2.1 bt445.2.2.1 bt445.2.2.2 bt452.1 bt452.2.1 bt452.2.2.1 bt452.2.2.2.1 bt452.2.2.2.2.1 bt452.2.2.2.2.2.1 bt452.2.2.2.2.2.2.1 bt452.2.2.2.2.2.2.2) else ((spec_IvOk.f bt445.1 bt445.2.1).bind fun t462 => (if t462 = true then ((spec_IvOk.f bt445.2.2.1 bt445.2.2.2).bind fun t463 => (laws_FnIvSound.j0 k l0 (Int.tmod t451 5) (!t463) bt445.1 bt445.2.1 bt445.2.2.1 bt445.2.2.2 bt452.1 bt452.2.1 bt452.2.2.1 bt452.2.2.2.1 bt452.2.2.2.2.1 bt452.2.2.2.2.2.1 bt452.2.2.2.2.2.2.1 bt452.2.2.2.2.2.2.2)) else (laws_FnIvSound.j0 k l0 (Int.tmod t451 5) true bt445.1 bt445.2.1 bt445.2.2.1 bt445.2.2.2 bt452.1 bt452.2.1 bt452.2.2.1 bt452.2.2.2.1 bt452.2.2.2.2.1 bt452.2.2.2.2.2.1 bt452.2.2.2.2.2.2.1 bt452.2.2.2.2.2.2.2))))))))) = some true := h
 clear h
 replace H := Option.bind_eq_some_iff.mp H
 obtain ⟨t444, A20, H⟩ := H
 replace H : (if t444 = true then (some true) else ((spec_DrawIvAdd.f k l0).bind fun bt445 => ((laws_byteOf.f l0 4).bind fun t451 => ((laws_op.f k (Int.tmod t451 5) bt445.1 bt445.2.1 bt445.2.2.1 bt445.2.2.2).bind fun bt452 => (if ((!(bt452.1 == bt452.2.2.2.2.1) || (!(bt452.2.1 == bt452.2.2.2.2.2.1))) || (!(bt452.2.2.1 == bt452.2.2.2.2.2.2.1) || (!(bt452.2.2.2.1 == bt452.2.2.2.2.2.2.2)))) = true then (laws_FnIvSound.j0 k l0 (Int.tmod t451 5) true bt445.1 bt445.2.1 bt445.2.2.1 bt445.2.2.2 bt452.1 bt452.2.1 bt452.2.2.1 bt452.2.2.2.1 bt452.2.2.2.2.1 bt452.2.2.2.2.2.1 bt452.2.2.2.2.2.2.1 bt452.2.2.2.2.2.2.2) else ((spec_IvOk.f bt445.1 bt445.2.1).bind fun t462 => (if t462 = true then ((spec_IvOk.f bt445.2.2.1 bt445.2.2.2).bind fun t463 => (laws_FnIvSound.j0 k l0 (Int.tmod t451 5) (!t463) bt445.1 bt445.2.1 bt445.2.2.1 bt445.2.2.2 bt452.1 bt452.2.1 bt452.2.2.1 bt452.2.2.2.1 bt452.2.2.2.2.1 bt452.2.2.2.2.2.1 bt452.2.2.2.2.2.2.1 bt452.2.2.2.2.2.2.2)) else (laws_FnIvSound.j0 k l0 (Int.tmod t451 5) true bt445.1 bt445.2.1 bt445.2.2.1 bt445.2.2.2 bt452.1 bt452.2.1 bt452.2.2.1 bt452.2.2.2.1 bt452.2.2.2.2.1 bt452.2.2.2.2.2.1 bt452.2.2.2.2.2.2.1 bt452.2.2.2.2.2.2.2)))))))) = some true := H
 have A2 := Aside0.mk A20
 clear A20
 by_cases c3 : t444 = true
 ·subst c3
  have H1 : (some true) = some true := by rw [if_pos rfl] at H; first | done | exact H
  clear H
  have H := H1
  clear H1
  have HE_ := Aside0.mk (Option.some.inj H)
  clear H
  go_enter Try.func6, Try.ntmps6
  go_wp2_with (((with_reducible refine gate_callee (f := 8) rfl ?_); refine goesL_ (some 13) rfl rfl Try.func8 (by kernel_rfl) rfl #[.slice A0 l0.length c0] rfl (by (try simp only [List.map_toArray, List.map_cons, List.map_nil]); first | done | rfl | (simp only [List.length_drop, List.length_take]; rfl)) ?_; (with_reducible refine (laws_big.calls _ _ l0 true _ ?side1 ?side2 A2.out).mono ?_); (case side1 => repeat (first | exact HR0.out | (with_reducible refine Kd.C_alloc ?_ _) | (with_reducible refine Kd.C_drewN ?_ _) | (with_reducible refine Kd.C_drew ?_))); (case side2 => exact HC0.out); rintro e w' ⟨rfl, ⟨nd, rfl⟩⟩; refine ⟨_, rfl, ?_⟩))
  go_ret
  exact ⟨by first | rfl | exact congrArg (fun b_ => Ending.returned (Value.bool b_)) HE_.out | (refine absurd HE_.out ?_; simp [*]; done) | (have h_ := HE_.out; clear HE_; simp_all; done) | (have h_ := HE_.out; clear HE_; simp_all; omega) | (simp [errW_none, errW_some] <;> rfl) | (simp [*, errW_none, errW_some] <;> rfl), bw HB⟩
 ·replace c3 := Bool.eq_false_iff.mpr c3
  subst c3
  have H1 : ((spec_DrawIvAdd.f k l0).bind fun bt445 => ((laws_byteOf.f l0 4).bind fun t451 => ((laws_op.f k (Int.tmod t451 5) bt445.1 bt445.2.1 bt445.2.2.1 bt445.2.2.2).bind fun bt452 => (if ((!(bt452.1 == bt452.2.2.2.2.1) || (!(bt452.2.1 == bt452.2.2.2.2.2.1))) || (!(bt452.2.2.1 == bt452.2.2.2.2.2.2.1) || (!(bt452.2.2.2.1 == bt452.2.2.2.2.2.2.2)))) = true then (laws_FnIvSound.j0 k l0 (Int.tmod t451 5) true bt445.1 bt445.2.1 bt445.2.2.1 bt445.2.2.2 bt452.1 bt452.2.1 bt452.2.2.1 bt452.2.2.2.1 bt452.2.2.2.2.1 bt452.2.2.2.2.2.1 bt452.2.2.2.2.2.2.1 bt452.2.2.2.2.2.2.2) else ((spec_IvOk.f bt445.1 bt445.2.1).bind fun t462 => (if t462 = true then ((spec_IvOk.f bt445.2.2.1 bt445.2.2.2).bind fun t463 => (laws_FnIvSound.j0 k l0 (Int.tmod t451 5) (!t463) bt445.1 bt445.2.1 bt445.2.2.1 bt445.2.2.2 bt452.1 bt452.2.1 bt452.2.2.1 bt452.2.2.2.1 bt452.2.2.2.2.1 bt452.2.2.2.2.2.1 bt452.2.2.2.2.2.2.1 bt452.2.2.2.2.2.2.2)) else (laws_FnIvSound.j0 k l0 (Int.tmod t451 5) true bt445.1 bt445.2.1 bt445.2.2.1 bt445.2.2.2 bt452.1 bt452.2.1 bt452.2.2.1 bt452.2.2.2.1 bt452.2.2.2.2.1 bt452.2.2.2.2.2.1 bt452.2.2.2.2.2.2.1 bt452.2.2.2.2.2.2.2))))))) = some true := by rw [if_neg (show ¬ (false = true) by decide)] at H; first | done | exact H
  clear H
  have H := H1
  clear H1
  replace H := Option.bind_eq_some_iff.mp H
  obtain ⟨⟨t445, t446, t447, t448⟩, A40, H⟩ := H
  replace H : ((laws_byteOf.f l0 4).bind fun t451 => ((laws_op.f k (Int.tmod t451 5) t445 t446 t447 t448).bind fun bt452 => (if ((!(bt452.1 == bt452.2.2.2.2.1) || (!(bt452.2.1 == bt452.2.2.2.2.2.1))) || (!(bt452.2.2.1 == bt452.2.2.2.2.2.2.1) || (!(bt452.2.2.2.1 == bt452.2.2.2.2.2.2.2)))) = true then (laws_FnIvSound.j0 k l0 (Int.tmod t451 5) true t445 t446 t447 t448 bt452.1 bt452.2.1 bt452.2.2.1 bt452.2.2.2.1 bt452.2.2.2.2.1 bt452.2.2.2.2.2.1 bt452.2.2.2.2.2.2.1 bt452.2.2.2.2.2.2.2) else ((spec_IvOk.f t445 t446).bind fun t462 => (if t462 = true then ((spec_IvOk.f t447 t448).bind fun t463 => (laws_FnIvSound.j0 k l0 (Int.tmod t451 5) (!t463) t445 t446 t447 t448 bt452.1 bt452.2.1 bt452.2.2.1 bt452.2.2.2.1 bt452.2.2.2.2.1 bt452.2.2.2.2.2.1 bt452.2.2.2.2.2.2.1 bt452.2.2.2.2.2.2.2)) else (laws_FnIvSound.j0 k l0 (Int.tmod t451 5) true t445 t446 t447 t448 bt452.1 bt452.2.1 bt452.2.2.1 bt452.2.2.2.1 bt452.2.2.2.2.1 bt452.2.2.2.2.2.1 bt452.2.2.2.2.2.2.1 bt452.2.2.2.2.2.2.2)))))) = some true := H
  have A4 := Aside0.mk A40
  clear A40
  replace H := Option.bind_eq_some_iff.mp H
  obtain ⟨t451, A50, H⟩ := H
  replace H : ((laws_op.f k (Int.tmod t451 5) t445 t446 t447 t448).bind fun bt452 => (if ((!(bt452.1 == bt452.2.2.2.2.1) || (!(bt452.2.1 == bt452.2.2.2.2.2.1))) || (!(bt452.2.2.1 == bt452.2.2.2.2.2.2.1) || (!(bt452.2.2.2.1 == bt452.2.2.2.2.2.2.2)))) = true then (laws_FnIvSound.j0 k l0 (Int.tmod t451 5) true t445 t446 t447 t448 bt452.1 bt452.2.1 bt452.2.2.1 bt452.2.2.2.1 bt452.2.2.2.2.1 bt452.2.2.2.2.2.1 bt452.2.2.2.2.2.2.1 bt452.2.2.2.2.2.2.2) else ((spec_IvOk.f t445 t446).bind fun t462 => (if t462 = true then ((spec_IvOk.f t447 t448).bind fun t463 => (laws_FnIvSound.j0 k l0 (Int.tmod t451 5) (!t463) t445 t446 t447 t448 bt452.1 bt452.2.1 bt452.2.2.1 bt452.2.2.2.1 bt452.2.2.2.2.1 bt452.2.2.2.2.2.1 bt452.2.2.2.2.2.2.1 bt452.2.2.2.2.2.2.2)) else (laws_FnIvSound.j0 k l0 (Int.tmod t451 5) true t445 t446 t447 t448 bt452.1 bt452.2.1 bt452.2.2.1 bt452.2.2.2.1 bt452.2.2.2.2.1 bt452.2.2.2.2.2.1 bt452.2.2.2.2.2.2.1 bt452.2.2.2.2.2.2.2))))) = some true := H
  have A5 := Aside0.mk A50
  clear A50
  replace H := Option.bind_eq_some_iff.mp H
  obtain ⟨⟨t452, t453, t454, t455, t456, t457, t458, t459⟩, A60, H⟩ := H
  replace H : (if ((!(t452 == t456) || (!(t453 == t457))) || (!(t454 == t458) || (!(t455 == t459)))) = true then (laws_FnIvSound.j0 k l0 (Int.tmod t451 5) true t445 t446 t447 t448 t452 t453 t454 t455 t456 t457 t458 t459) else ((spec_IvOk.f t445 t446).bind fun t462 => (if t462 = true then ((spec_IvOk.f t447 t448).bind fun t463 => (laws_FnIvSound.j0 k l0 (Int.tmod t451 5) (!t463) t445 t446 t447 t448 t452 t453 t454 t455 t456 t457 t458 t459)) else (laws_FnIvSound.j0 k l0 (Int.tmod t451 5) true t445 t446 t447 t448 t452 t453 t454 t455 t456 t457 t458 t459)))) = some true := H
  have A6 := Aside0.mk A60
  clear A60
  have HC7 := Aside0.mk H
  clear H
  go_enter Try.func6, Try.ntmps6
  go_upto_region 6 with (first | ((with_reducible refine gate_callee (f := 8) rfl ?_); refine goesL_ (some 13) rfl rfl Try.func8 (by kernel_rfl) rfl #[.slice A0 l0.length c0] rfl (by (try simp only [List.map_toArray, List.map_cons, List.map_nil]); first | done | rfl | (simp only [List.length_drop, List.length_take]; rfl)) ?_; (with_reducible refine (laws_big.calls _ _ l0 false _ ?side1 ?side2 A2.out).mono ?_); (case side1 => repeat (first | exact HR0.out | (with_reducible refine Kd.C_alloc ?_ _) | (with_reducible refine Kd.C_drewN ?_ _) | (with_reducible refine Kd.C_drew ?_))); (case side2 => exact HC0.out); rintro e w' ⟨rfl, ⟨nd, rfl⟩⟩; refine ⟨_, rfl, ?_⟩) | ((with_reducible refine gate_callee (f := 18) rfl ?_); refine goesL_ (some 16) rfl rfl Try.func18 (by kernel_rfl) rfl #[.slice A0 l0.length c0] rfl (by (try simp only [List.map_toArray, List.map_cons, List.map_nil]); first | done | rfl | (simp only [List.length_drop, List.length_take]; rfl)) ?_; (with_reducible refine (spec_DrawIvAdd.calls k _ _ l0 t445 t446 t447 t448 _ ?side1 ?side2 A4.out).mono ?_); (case side1 => repeat (first | exact HR0.out | (with_reducible refine Kd.C_alloc ?_ _) | (with_reducible refine Kd.C_drewN ?_ _) | (with_reducible refine Kd.C_drew ?_))); (case side2 => exact HC0.out); rintro e w8 ⟨rfl, hb⟩; refine ⟨_, rfl, ?_⟩; replace HB := bs HB hb; (try clear hb); (try clear hb2); (try clear hk); (try clear hi)) | ((with_reducible refine gate_dst (N := 3) rfl ?_); refine box_event rfl rfl (cs := #[.int .i64 0, .int .i64 0]) (t := 25) (by first | (go_simp; done) | (go_simp; rfl)) ?_; intro gb449 hg w9 hbox hb; have BK449 := Aside0.mk (hbox); have GW449 := bz HB hg; have GE449 := bz HB hg; replace HB := bs HB hb; clear hb hbox hg) | ((with_reducible refine gate_dst (N := 4) rfl ?_); refine box_event rfl rfl (cs := #[.int .i64 0, .int .i64 0]) (t := 25) (by first | (go_simp; done) | (go_simp; rfl)) ?_; intro gb450 hg w10 hbox hb; have BK450 := Aside0.mk (hbox); have GW450 := bz HB hg; have GE450 := bz HB hg; replace HB := bs HB hb; have NB449_450 := bl BK449 hg; have NB450_449 := bg BK449 hg; replace BK449 := bb BK449 hb; clear hb hbox hg; have hnb11 := NB449_450.out; have hnc11 := NB450_449.out; have hcz12_0 : w10.cell? ⟨gb449, 0, none⟩ = some (.int .i64 0) := (blk_cell BK449.out 0).trans rfl; have hcz12_1 : w10.cell? ⟨gb449, 1, none⟩ = some (.int .i64 0) := (blk_cell BK449.out 1).trans rfl; have hfz12_0 := blk_frozen BK449.out 0; have hfz12_1 := blk_frozen BK449.out 1; have hcz13_0 : w10.cell? ⟨gb450, 0, none⟩ = some (.int .i64 0) := (blk_cell BK450.out 0).trans rfl; have hcz13_1 : w10.cell? ⟨gb450, 1, none⟩ = some (.int .i64 0) := (blk_cell BK450.out 1).trans rfl; have hfz13_0 := blk_frozen BK450.out 0; have hfz13_1 := blk_frozen BK450.out 1) | ((with_reducible refine gate_callee (f := 14) rfl ?_); refine goesL_ (some 20) rfl rfl Try.func14 (by kernel_rfl) rfl #[.slice A0 l0.length c0, .int .i64 4] rfl (by (try simp only [List.map_toArray, List.map_cons, List.map_nil]); first | done | rfl | (simp only [List.length_drop, List.length_take]; rfl)) ?_; (with_reducible refine (laws_byteOf.calls _ _ l0 4 t451 _ ?side1 ?side2 A5.out).mono ?_); (case side1 => exact Kd.C_below HR0.out (bw HB)); (case side2 => exact HC0.out); rintro e w' ⟨rfl, ⟨nd, rfl⟩⟩; refine ⟨_, rfl, ?_⟩) | ((with_reducible refine gate_callee (f := 15) rfl ?_); refine goesL_ (some 26) rfl rfl Try.func15 (by kernel_rfl) rfl #[.int .i64 (Int.tmod t451 5), .agg #[.int .i64 t445, .int .i64 t446], .agg #[.int .i64 t447, .int .i64 t448]] rfl (by (try simp only [List.map_toArray, List.map_cons, List.map_nil]); first | done | rfl | (simp only [List.length_drop, List.length_take]; rfl)) ?_; (with_reducible refine (laws_op.calls k (Int.tmod t451 5) t445 t446 t447 t448 t452 t453 t454 t455 t456 t457 t458 t459 _ A6.out).mono ?_); rintro e w14 ⟨rfl, hb⟩; refine ⟨_, rfl, ?_⟩; replace BK449 := Aside0.mk (blk_below (g := gb449) (o := .cells #[.int .i64 t445, .int .i64 t446] 25 (0, 0)) (by (with_reducible repeat (first | refine blk_drewN ?_ _ | refine blk_drew ?_ | refine blk_alloc ?_ _)); refine blk_far ?_ NB449_450.out _; (with_reducible repeat (first | refine blk_drewN ?_ _ | refine blk_drew ?_ | refine blk_alloc ?_ _)); refine blk_far ?_ NB449_450.out _; (with_reducible repeat (first | refine blk_drewN ?_ _ | refine blk_drew ?_ | refine blk_alloc ?_ _)); refine blk_put (cs := #[.int .i64 t445, .int .i64 0]) ?_ 1 _ rfl; (with_reducible repeat (first | refine blk_drewN ?_ _ | refine blk_drew ?_ | refine blk_alloc ?_ _)); refine blk_put (cs := #[.int .i64 0, .int .i64 0]) ?_ 0 _ rfl; (with_reducible repeat (first | refine blk_drewN ?_ _ | refine blk_drew ?_ | refine blk_alloc ?_ _)); exact BK449.out) hb); replace BK450 := Aside0.mk (blk_below (g := gb450) (o := .cells #[.int .i64 t447, .int .i64 t448] 25 (0, 0)) (by (with_reducible repeat (first | refine blk_drewN ?_ _ | refine blk_drew ?_ | refine blk_alloc ?_ _)); refine blk_put (cs := #[.int .i64 t447, .int .i64 0]) ?_ 1 _ rfl; (with_reducible repeat (first | refine blk_drewN ?_ _ | refine blk_drew ?_ | refine blk_alloc ?_ _)); refine blk_put (cs := #[.int .i64 0, .int .i64 0]) ?_ 0 _ rfl; (with_reducible repeat (first | refine blk_drewN ?_ _ | refine blk_drew ?_ | refine blk_alloc ?_ _)); refine blk_far ?_ NB450_449.out _; (with_reducible repeat (first | refine blk_drewN ?_ _ | refine blk_drew ?_ | refine blk_alloc ?_ _)); refine blk_far ?_ NB450_449.out _; (with_reducible repeat (first | refine blk_drewN ?_ _ | refine blk_drew ?_ | refine blk_alloc ?_ _)); exact BK450.out) hb); replace HB := bs HB hb; (try clear hb); (try clear hb2); (try clear hk); (try clear hi)) | ((with_reducible refine gate_dst (N := 6) rfl ?_); refine box_event rfl rfl (cs := #[.int .i64 0, .int .i64 0, .bool false, .int .i64 0]) (t := 28) (by first | (go_simp; done) | (go_simp; rfl)) ?_; intro gb460 hg w15 hbox hb; have BK460 := Aside0.mk (hbox); have GW460 := bz HB hg; have GE460 := bz HB hg; replace HB := bs HB hb; have NB449_460 := bl BK449 hg; have NB460_449 := bg BK449 hg; replace BK449 := bb BK449 hb; have NB450_460 := bl BK450 hg; have NB460_450 := bg BK450 hg; replace BK450 := bb BK450 hb; clear hb hbox hg) | ((with_reducible refine gate_dst (N := 7) rfl ?_); refine box_event rfl rfl (cs := #[.int .i64 0, .int .i64 0, .bool false, .int .i64 0]) (t := 28) (by first | (go_simp; done) | (go_simp; rfl)) ?_; intro gb461 hg w16 hbox hb; have BK461 := Aside0.mk (hbox); have GW461 := bz HB hg; have GE461 := bz HB hg; replace HB := bs HB hb; have NB449_461 := bl BK449 hg; have NB461_449 := bg BK449 hg; replace BK449 := bb BK449 hb; have NB450_461 := bl BK450 hg; have NB461_450 := bg BK450 hg; replace BK450 := bb BK450 hb; have NB460_461 := bl BK460 hg; have NB461_460 := bg BK460 hg; replace BK460 := bb BK460 hb; clear hb hbox hg; have hnb17 := NB460_449.out; have hnc17 := NB449_460.out; have hnb18 := NB460_450.out; have hnc18 := NB450_460.out; have hnb19 := NB460_461.out; have hnc19 := NB461_460.out; have hcz20_0 : w16.cell? ⟨gb460, 0, none⟩ = some (.int .i64 0) := (blk_cell BK460.out 0).trans rfl; have hcz20_1 : w16.cell? ⟨gb460, 1, none⟩ = some (.int .i64 0) := (blk_cell BK460.out 1).trans rfl; have hcz20_2 : w16.cell? ⟨gb460, 2, none⟩ = some (.bool false) := (blk_cell BK460.out 2).trans rfl; have hcz20_3 : w16.cell? ⟨gb460, 3, none⟩ = some (.int .i64 0) := (blk_cell BK460.out 3).trans rfl; have hfz20_0 := blk_frozen BK460.out 0; have hfz20_1 := blk_frozen BK460.out 1; have hfz20_2 := blk_frozen BK460.out 2; have hfz20_3 := blk_frozen BK460.out 3; have hnb21 := NB461_449.out; have hnc21 := NB449_461.out; have hnb22 := NB461_450.out; have hnc22 := NB450_461.out; have hcz23_0 : w16.cell? ⟨gb461, 0, none⟩ = some (.int .i64 0) := (blk_cell BK461.out 0).trans rfl; have hcz23_1 : w16.cell? ⟨gb461, 1, none⟩ = some (.int .i64 0) := (blk_cell BK461.out 1).trans rfl; have hcz23_2 : w16.cell? ⟨gb461, 2, none⟩ = some (.bool false) := (blk_cell BK461.out 2).trans rfl; have hcz23_3 : w16.cell? ⟨gb461, 3, none⟩ = some (.int .i64 0) := (blk_cell BK461.out 3).trans rfl; have hfz23_0 := blk_frozen BK461.out 0; have hfz23_1 := blk_frozen BK461.out 1; have hfz23_2 := blk_frozen BK461.out 2; have hfz23_3 := blk_frozen BK461.out 3))
  (try simp only [Act.put, List.setIfInBounds_toArray, List.set_cons_zero, List.set_cons_succ])
  go_cut [41] (fun v41 wc => ∃ (kq : Nat) (x41_6 : Bool), v41 = .bool x41_6 ∧ Aside0 (laws_FnIvSound.j0 kq l0 (Int.tmod t451 5) x41_6 t445 t446 t447 t448 t452 t453 t454 t455 t456 t457 t458 t459 = some true) ∧ Aside0 (kq ≤ k) ∧ Aside0 (wc.heap[gb449]? = some (.cells #[.int .i64 t445, .int .i64 t446] 25 (0, 0))) ∧ Aside0 (wc.heap[gb450]? = some (.cells #[.int .i64 t447, .int .i64 t448] 25 (0, 0))) ∧ Aside0 (wc.heap[gb460]? = some (.cells #[.int .i64 t452, .int .i64 t453, .bool t454, .int .i64 t455] 28 (0, 0))) ∧ Aside0 (wc.heap[gb461]? = some (.cells #[.int .i64 t456, .int .i64 t457, .bool t458, .int .i64 t459] 28 (0, 0))) ∧ Aside0 (Below w.heap.size w wc))
  case first =>
   have H := HC7.out
   clear HC7
   by_cases c24 : ((!(t452 == t456) || (!(t453 == t457))) || (!(t454 == t458) || (!(t455 == t459)))) = true
   ·rw [if_pos c24] at H
    have c24b0 : ((!(t452 == t456) || (!(t453 == t457))) || (!(t454 == t458) || (!(t455 == t459)))) = true := c24
    clear c24
    (first | rw [c24b0] | (simp only [i64_w, i32_w]; rw [c24b0]) | skip)
    have H' := Aside0.mk H
    clear H
    have hnb25 := NB460_449.out
    have hnc25 := NB449_460.out
    have hnb26 := NB460_450.out
    have hnc26 := NB450_460.out
    have hnb27 := NB460_461.out
    have hnc27 := NB461_460.out
    have hcz28_0 : w16.cell? ⟨gb460, 0, none⟩ = some (.int .i64 0) := (blk_cell BK460.out 0).trans rfl
    have hcz28_1 : w16.cell? ⟨gb460, 1, none⟩ = some (.int .i64 0) := (blk_cell BK460.out 1).trans rfl
    have hcz28_2 : w16.cell? ⟨gb460, 2, none⟩ = some (.bool false) := (blk_cell BK460.out 2).trans rfl
    have hcz28_3 : w16.cell? ⟨gb460, 3, none⟩ = some (.int .i64 0) := (blk_cell BK460.out 3).trans rfl
    have hfz28_0 := blk_frozen BK460.out 0
    have hfz28_1 := blk_frozen BK460.out 1
    have hfz28_2 := blk_frozen BK460.out 2
    have hfz28_3 := blk_frozen BK460.out 3
    have hnb29 := NB461_449.out
    have hnc29 := NB449_461.out
    have hnb30 := NB461_450.out
    have hnc30 := NB450_461.out
    have hcz31_0 : w16.cell? ⟨gb461, 0, none⟩ = some (.int .i64 0) := (blk_cell BK461.out 0).trans rfl
    have hcz31_1 : w16.cell? ⟨gb461, 1, none⟩ = some (.int .i64 0) := (blk_cell BK461.out 1).trans rfl
    have hcz31_2 : w16.cell? ⟨gb461, 2, none⟩ = some (.bool false) := (blk_cell BK461.out 2).trans rfl
    have hcz31_3 : w16.cell? ⟨gb461, 3, none⟩ = some (.int .i64 0) := (blk_cell BK461.out 3).trans rfl
    have hfz31_0 := blk_frozen BK461.out 0
    have hfz31_1 := blk_frozen BK461.out 1
    have hfz31_2 := blk_frozen BK461.out 2
    have hfz31_3 := blk_frozen BK461.out 3
    go_wp2
    go_meet
    case rel => exact ⟨_, (true), (by first | rfl | (simp; done) | (simp [*]; done)), H', ⟨by first | omega | exact Nat.le_refl _⟩, ⟨bx BK449⟩, ⟨bx BK450⟩, ⟨by (with_reducible repeat (first | refine blk_drewN ?_ _ | refine blk_drew ?_ | refine blk_alloc ?_ _)); refine blk_far ?_ NB460_461.out _; (with_reducible repeat (first | refine blk_drewN ?_ _ | refine blk_drew ?_ | refine blk_alloc ?_ _)); refine blk_far ?_ NB460_461.out _; (with_reducible repeat (first | refine blk_drewN ?_ _ | refine blk_drew ?_ | refine blk_alloc ?_ _)); refine blk_far ?_ NB460_461.out _; (with_reducible repeat (first | refine blk_drewN ?_ _ | refine blk_drew ?_ | refine blk_alloc ?_ _)); refine blk_far ?_ NB460_461.out _; (with_reducible repeat (first | refine blk_drewN ?_ _ | refine blk_drew ?_ | refine blk_alloc ?_ _)); refine blk_put (cs := #[.int .i64 t452, .int .i64 t453, .bool t454, .int .i64 0]) ?_ 3 _ rfl; (with_reducible repeat (first | refine blk_drewN ?_ _ | refine blk_drew ?_ | refine blk_alloc ?_ _)); refine blk_put (cs := #[.int .i64 t452, .int .i64 t453, .bool false, .int .i64 0]) ?_ 2 _ rfl; (with_reducible repeat (first | refine blk_drewN ?_ _ | refine blk_drew ?_ | refine blk_alloc ?_ _)); refine blk_put (cs := #[.int .i64 t452, .int .i64 0, .bool false, .int .i64 0]) ?_ 1 _ rfl; (with_reducible repeat (first | refine blk_drewN ?_ _ | refine blk_drew ?_ | refine blk_alloc ?_ _)); refine blk_put (cs := #[.int .i64 0, .int .i64 0, .bool false, .int .i64 0]) ?_ 0 _ rfl; (with_reducible repeat (first | refine blk_drewN ?_ _ | refine blk_drew ?_ | refine blk_alloc ?_ _)); exact BK460.out⟩, ⟨by (with_reducible repeat (first | refine blk_drewN ?_ _ | refine blk_drew ?_ | refine blk_alloc ?_ _)); refine blk_put (cs := #[.int .i64 t456, .int .i64 t457, .bool t458, .int .i64 0]) ?_ 3 _ rfl; (with_reducible repeat (first | refine blk_drewN ?_ _ | refine blk_drew ?_ | refine blk_alloc ?_ _)); refine blk_put (cs := #[.int .i64 t456, .int .i64 t457, .bool false, .int .i64 0]) ?_ 2 _ rfl; (with_reducible repeat (first | refine blk_drewN ?_ _ | refine blk_drew ?_ | refine blk_alloc ?_ _)); refine blk_put (cs := #[.int .i64 t456, .int .i64 0, .bool false, .int .i64 0]) ?_ 1 _ rfl; (with_reducible repeat (first | refine blk_drewN ?_ _ | refine blk_drew ?_ | refine blk_alloc ?_ _)); refine blk_put (cs := #[.int .i64 0, .int .i64 0, .bool false, .int .i64 0]) ?_ 0 _ rfl; (with_reducible repeat (first | refine blk_drewN ?_ _ | refine blk_drew ?_ | refine blk_alloc ?_ _)); refine blk_far ?_ NB461_460.out _; (with_reducible repeat (first | refine blk_drewN ?_ _ | refine blk_drew ?_ | refine blk_alloc ?_ _)); refine blk_far ?_ NB461_460.out _; (with_reducible repeat (first | refine blk_drewN ?_ _ | refine blk_drew ?_ | refine blk_alloc ?_ _)); refine blk_far ?_ NB461_460.out _; (with_reducible repeat (first | refine blk_drewN ?_ _ | refine blk_drew ?_ | refine blk_alloc ?_ _)); refine blk_far ?_ NB461_460.out _; (with_reducible repeat (first | refine blk_drewN ?_ _ | refine blk_drew ?_ | refine blk_alloc ?_ _)); exact BK461.out⟩, ⟨bw HB⟩⟩
   ·rw [if_neg c24] at H
    have c24b0 : ((!(t452 == t456) || (!(t453 == t457))) || (!(t454 == t458) || (!(t455 == t459)))) = false := by simpa using c24
    clear c24
    (first | rw [c24b0] | (simp only [i64_w, i32_w]; rw [c24b0]) | skip)
    replace H := Option.bind_eq_some_iff.mp H
    obtain ⟨t462, A320, H⟩ := H
    replace H : (if t462 = true then ((spec_IvOk.f t447 t448).bind fun t463 => (laws_FnIvSound.j0 k l0 (Int.tmod t451 5) (!t463) t445 t446 t447 t448 t452 t453 t454 t455 t456 t457 t458 t459)) else (laws_FnIvSound.j0 k l0 (Int.tmod t451 5) true t445 t446 t447 t448 t452 t453 t454 t455 t456 t457 t458 t459)) = some true := H
    have A32 := Aside0.mk A320
    clear A320
    by_cases c33 : t462 = true
    ·subst c33
     have H1 : ((spec_IvOk.f t447 t448).bind fun t463 => (laws_FnIvSound.j0 k l0 (Int.tmod t451 5) (!t463) t445 t446 t447 t448 t452 t453 t454 t455 t456 t457 t458 t459)) = some true := by rw [if_pos rfl] at H; first | done | exact H
     clear H
     have H := H1
     clear H1
     replace H := Option.bind_eq_some_iff.mp H
     obtain ⟨t463, A340, H⟩ := H
     replace H : (laws_FnIvSound.j0 k l0 (Int.tmod t451 5) (!t463) t445 t446 t447 t448 t452 t453 t454 t455 t456 t457 t458 t459) = some true := H
     have A34 := Aside0.mk A340
     clear A340
     have H' := Aside0.mk H
     clear H
     have hnb35 := NB460_449.out
     have hnc35 := NB449_460.out
     have hnb36 := NB460_450.out
     have hnc36 := NB450_460.out
     have hnb37 := NB460_461.out
     have hnc37 := NB461_460.out
     have hcz38_0 : w16.cell? ⟨gb460, 0, none⟩ = some (.int .i64 0) := (blk_cell BK460.out 0).trans rfl
     have hcz38_1 : w16.cell? ⟨gb460, 1, none⟩ = some (.int .i64 0) := (blk_cell BK460.out 1).trans rfl
     have hcz38_2 : w16.cell? ⟨gb460, 2, none⟩ = some (.bool false) := (blk_cell BK460.out 2).trans rfl
     have hcz38_3 : w16.cell? ⟨gb460, 3, none⟩ = some (.int .i64 0) := (blk_cell BK460.out 3).trans rfl
     have hfz38_0 := blk_frozen BK460.out 0
     have hfz38_1 := blk_frozen BK460.out 1
     have hfz38_2 := blk_frozen BK460.out 2
     have hfz38_3 := blk_frozen BK460.out 3
     have hnb39 := NB461_449.out
     have hnc39 := NB449_461.out
     have hnb40 := NB461_450.out
     have hnc40 := NB450_461.out
     have hcz41_0 : w16.cell? ⟨gb461, 0, none⟩ = some (.int .i64 0) := (blk_cell BK461.out 0).trans rfl
     have hcz41_1 : w16.cell? ⟨gb461, 1, none⟩ = some (.int .i64 0) := (blk_cell BK461.out 1).trans rfl
     have hcz41_2 : w16.cell? ⟨gb461, 2, none⟩ = some (.bool false) := (blk_cell BK461.out 2).trans rfl
     have hcz41_3 : w16.cell? ⟨gb461, 3, none⟩ = some (.int .i64 0) := (blk_cell BK461.out 3).trans rfl
     have hfz41_0 := blk_frozen BK461.out 0
     have hfz41_1 := blk_frozen BK461.out 1
     have hfz41_2 := blk_frozen BK461.out 2
     have hfz41_3 := blk_frozen BK461.out 3
     have hnb42 := NB449_450.out
     have hnc42 := NB450_449.out
     have hcz43_0 : w16.cell? ⟨gb449, 0, none⟩ = some (.int .i64 t445) := (blk_cell BK449.out 0).trans rfl
     have hcz43_1 : w16.cell? ⟨gb449, 1, none⟩ = some (.int .i64 t446) := (blk_cell BK449.out 1).trans rfl
     have hfz43_0 := blk_frozen BK449.out 0
     have hfz43_1 := blk_frozen BK449.out 1
     go_wp2_with (first | (go_at_call 12; (with_reducible refine (spec_IvOk.calls t445 t446 true _ A32.out).mono ?_); rintro e w44 ⟨rfl, hb⟩; replace BK449 := Aside0.mk (blk_below (g := gb449) (o := .cells #[.int .i64 t445, .int .i64 t446] 25 (0, 0)) (bx BK449) hb); replace BK450 := Aside0.mk (blk_below (g := gb450) (o := .cells #[.int .i64 t447, .int .i64 t448] 25 (0, 0)) (bx BK450) hb); replace BK460 := Aside0.mk (blk_below (g := gb460) (o := .cells #[.int .i64 t452, .int .i64 t453, .bool t454, .int .i64 t455] 28 (0, 0)) (by (with_reducible repeat (first | refine blk_drewN ?_ _ | refine blk_drew ?_ | refine blk_alloc ?_ _)); refine blk_far ?_ NB460_461.out _; (with_reducible repeat (first | refine blk_drewN ?_ _ | refine blk_drew ?_ | refine blk_alloc ?_ _)); refine blk_far ?_ NB460_461.out _; (with_reducible repeat (first | refine blk_drewN ?_ _ | refine blk_drew ?_ | refine blk_alloc ?_ _)); refine blk_far ?_ NB460_461.out _; (with_reducible repeat (first | refine blk_drewN ?_ _ | refine blk_drew ?_ | refine blk_alloc ?_ _)); refine blk_far ?_ NB460_461.out _; (with_reducible repeat (first | refine blk_drewN ?_ _ | refine blk_drew ?_ | refine blk_alloc ?_ _)); refine blk_put (cs := #[.int .i64 t452, .int .i64 t453, .bool t454, .int .i64 0]) ?_ 3 _ rfl; (with_reducible repeat (first | refine blk_drewN ?_ _ | refine blk_drew ?_ | refine blk_alloc ?_ _)); refine blk_put (cs := #[.int .i64 t452, .int .i64 t453, .bool false, .int .i64 0]) ?_ 2 _ rfl; (with_reducible repeat (first | refine blk_drewN ?_ _ | refine blk_drew ?_ | refine blk_alloc ?_ _)); refine blk_put (cs := #[.int .i64 t452, .int .i64 0, .bool false, .int .i64 0]) ?_ 1 _ rfl; (with_reducible repeat (first | refine blk_drewN ?_ _ | refine blk_drew ?_ | refine blk_alloc ?_ _)); refine blk_put (cs := #[.int .i64 0, .int .i64 0, .bool false, .int .i64 0]) ?_ 0 _ rfl; (with_reducible repeat (first | refine blk_drewN ?_ _ | refine blk_drew ?_ | refine blk_alloc ?_ _)); exact BK460.out) hb); replace BK461 := Aside0.mk (blk_below (g := gb461) (o := .cells #[.int .i64 t456, .int .i64 t457, .bool t458, .int .i64 t459] 28 (0, 0)) (by (with_reducible repeat (first | refine blk_drewN ?_ _ | refine blk_drew ?_ | refine blk_alloc ?_ _)); refine blk_put (cs := #[.int .i64 t456, .int .i64 t457, .bool t458, .int .i64 0]) ?_ 3 _ rfl; (with_reducible repeat (first | refine blk_drewN ?_ _ | refine blk_drew ?_ | refine blk_alloc ?_ _)); refine blk_put (cs := #[.int .i64 t456, .int .i64 t457, .bool false, .int .i64 0]) ?_ 2 _ rfl; (with_reducible repeat (first | refine blk_drewN ?_ _ | refine blk_drew ?_ | refine blk_alloc ?_ _)); refine blk_put (cs := #[.int .i64 t456, .int .i64 0, .bool false, .int .i64 0]) ?_ 1 _ rfl; (with_reducible repeat (first | refine blk_drewN ?_ _ | refine blk_drew ?_ | refine blk_alloc ?_ _)); refine blk_put (cs := #[.int .i64 0, .int .i64 0, .bool false, .int .i64 0]) ?_ 0 _ rfl; (with_reducible repeat (first | refine blk_drewN ?_ _ | refine blk_drew ?_ | refine blk_alloc ?_ _)); refine blk_far ?_ NB461_460.out _; (with_reducible repeat (first | refine blk_drewN ?_ _ | refine blk_drew ?_ | refine blk_alloc ?_ _)); refine blk_far ?_ NB461_460.out _; (with_reducible repeat (first | refine blk_drewN ?_ _ | refine blk_drew ?_ | refine blk_alloc ?_ _)); refine blk_far ?_ NB461_460.out _; (with_reducible repeat (first | refine blk_drewN ?_ _ | refine blk_drew ?_ | refine blk_alloc ?_ _)); refine blk_far ?_ NB461_460.out _; (with_reducible repeat (first | refine blk_drewN ?_ _ | refine blk_drew ?_ | refine blk_alloc ?_ _)); exact BK461.out) hb); replace HB := bs HB hb; (try clear hb); (try clear hb2); (try clear hk); (try clear hi); have hcz45_0 : w44.cell? ⟨gb450, 0, none⟩ = some (.int .i64 t447) := (blk_cell BK450.out 0).trans rfl; have hcz45_1 : w44.cell? ⟨gb450, 1, none⟩ = some (.int .i64 t448) := (blk_cell BK450.out 1).trans rfl; have hfz45_0 := blk_frozen BK450.out 0; have hfz45_1 := blk_frozen BK450.out 1) | (go_at_call 12; (with_reducible refine (spec_IvOk.calls t447 t448 t463 _ A34.out).mono ?_); rintro e w46 ⟨rfl, hb⟩; replace BK449 := bb BK449 hb; replace BK450 := bb BK450 hb; replace BK460 := bb BK460 hb; replace BK461 := bb BK461 hb; replace HB := bs HB hb; (try clear hb); (try clear hb2); (try clear hk); (try clear hi)))
     go_meet
     case rel => exact ⟨_, (!t463), (by first | rfl | (simp; done) | (simp [*]; done)), H', ⟨by first | omega | exact Nat.le_refl _⟩, ⟨bx BK449⟩, ⟨bx BK450⟩, ⟨bx BK460⟩, ⟨bx BK461⟩, ⟨bw HB⟩⟩
    ·replace c33 := Bool.eq_false_iff.mpr c33
     subst c33
     have H1 : (laws_FnIvSound.j0 k l0 (Int.tmod t451 5) true t445 t446 t447 t448 t452 t453 t454 t455 t456 t457 t458 t459) = some true := by rw [if_neg (show ¬ (false = true) by decide)] at H; first | done | exact H
     clear H
     have H := H1
     clear H1
     have H' := Aside0.mk H
     clear H
     have hnb47 := NB460_449.out
     have hnc47 := NB449_460.out
     have hnb48 := NB460_450.out
     have hnc48 := NB450_460.out
     have hnb49 := NB460_461.out
     have hnc49 := NB461_460.out
     have hcz50_0 : w16.cell? ⟨gb460, 0, none⟩ = some (.int .i64 0) := (blk_cell BK460.out 0).trans rfl
     have hcz50_1 : w16.cell? ⟨gb460, 1, none⟩ = some (.int .i64 0) := (blk_cell BK460.out 1).trans rfl
     have hcz50_2 : w16.cell? ⟨gb460, 2, none⟩ = some (.bool false) := (blk_cell BK460.out 2).trans rfl
     have hcz50_3 : w16.cell? ⟨gb460, 3, none⟩ = some (.int .i64 0) := (blk_cell BK460.out 3).trans rfl
     have hfz50_0 := blk_frozen BK460.out 0
     have hfz50_1 := blk_frozen BK460.out 1
     have hfz50_2 := blk_frozen BK460.out 2
     have hfz50_3 := blk_frozen BK460.out 3
     have hnb51 := NB461_449.out
     have hnc51 := NB449_461.out
     have hnb52 := NB461_450.out
     have hnc52 := NB450_461.out
     have hcz53_0 : w16.cell? ⟨gb461, 0, none⟩ = some (.int .i64 0) := (blk_cell BK461.out 0).trans rfl
     have hcz53_1 : w16.cell? ⟨gb461, 1, none⟩ = some (.int .i64 0) := (blk_cell BK461.out 1).trans rfl
     have hcz53_2 : w16.cell? ⟨gb461, 2, none⟩ = some (.bool false) := (blk_cell BK461.out 2).trans rfl
     have hcz53_3 : w16.cell? ⟨gb461, 3, none⟩ = some (.int .i64 0) := (blk_cell BK461.out 3).trans rfl
     have hfz53_0 := blk_frozen BK461.out 0
     have hfz53_1 := blk_frozen BK461.out 1
     have hfz53_2 := blk_frozen BK461.out 2
     have hfz53_3 := blk_frozen BK461.out 3
     have hnb54 := NB449_450.out
     have hnc54 := NB450_449.out
     have hcz55_0 : w16.cell? ⟨gb449, 0, none⟩ = some (.int .i64 t445) := (blk_cell BK449.out 0).trans rfl
     have hcz55_1 : w16.cell? ⟨gb449, 1, none⟩ = some (.int .i64 t446) := (blk_cell BK449.out 1).trans rfl
     have hfz55_0 := blk_frozen BK449.out 0
     have hfz55_1 := blk_frozen BK449.out 1
     go_wp2_with ((go_at_call 12; (with_reducible refine (spec_IvOk.calls t445 t446 false _ A32.out).mono ?_); rintro e w56 ⟨rfl, hb⟩; replace BK449 := Aside0.mk (blk_below (g := gb449) (o := .cells #[.int .i64 t445, .int .i64 t446] 25 (0, 0)) (bx BK449) hb); replace BK450 := Aside0.mk (blk_below (g := gb450) (o := .cells #[.int .i64 t447, .int .i64 t448] 25 (0, 0)) (bx BK450) hb); replace BK460 := Aside0.mk (blk_below (g := gb460) (o := .cells #[.int .i64 t452, .int .i64 t453, .bool t454, .int .i64 t455] 28 (0, 0)) (by (with_reducible repeat (first | refine blk_drewN ?_ _ | refine blk_drew ?_ | refine blk_alloc ?_ _)); refine blk_far ?_ NB460_461.out _; (with_reducible repeat (first | refine blk_drewN ?_ _ | refine blk_drew ?_ | refine blk_alloc ?_ _)); refine blk_far ?_ NB460_461.out _; (with_reducible repeat (first | refine blk_drewN ?_ _ | refine blk_drew ?_ | refine blk_alloc ?_ _)); refine blk_far ?_ NB460_461.out _; (with_reducible repeat (first | refine blk_drewN ?_ _ | refine blk_drew ?_ | refine blk_alloc ?_ _)); refine blk_far ?_ NB460_461.out _; (with_reducible repeat (first | refine blk_drewN ?_ _ | refine blk_drew ?_ | refine blk_alloc ?_ _)); refine blk_put (cs := #[.int .i64 t452, .int .i64 t453, .bool t454, .int .i64 0]) ?_ 3 _ rfl; (with_reducible repeat (first | refine blk_drewN ?_ _ | refine blk_drew ?_ | refine blk_alloc ?_ _)); refine blk_put (cs := #[.int .i64 t452, .int .i64 t453, .bool false, .int .i64 0]) ?_ 2 _ rfl; (with_reducible repeat (first | refine blk_drewN ?_ _ | refine blk_drew ?_ | refine blk_alloc ?_ _)); refine blk_put (cs := #[.int .i64 t452, .int .i64 0, .bool false, .int .i64 0]) ?_ 1 _ rfl; (with_reducible repeat (first | refine blk_drewN ?_ _ | refine blk_drew ?_ | refine blk_alloc ?_ _)); refine blk_put (cs := #[.int .i64 0, .int .i64 0, .bool false, .int .i64 0]) ?_ 0 _ rfl; (with_reducible repeat (first | refine blk_drewN ?_ _ | refine blk_drew ?_ | refine blk_alloc ?_ _)); exact BK460.out) hb); replace BK461 := Aside0.mk (blk_below (g := gb461) (o := .cells #[.int .i64 t456, .int .i64 t457, .bool t458, .int .i64 t459] 28 (0, 0)) (by (with_reducible repeat (first | refine blk_drewN ?_ _ | refine blk_drew ?_ | refine blk_alloc ?_ _)); refine blk_put (cs := #[.int .i64 t456, .int .i64 t457, .bool t458, .int .i64 0]) ?_ 3 _ rfl; (with_reducible repeat (first | refine blk_drewN ?_ _ | refine blk_drew ?_ | refine blk_alloc ?_ _)); refine blk_put (cs := #[.int .i64 t456, .int .i64 t457, .bool false, .int .i64 0]) ?_ 2 _ rfl; (with_reducible repeat (first | refine blk_drewN ?_ _ | refine blk_drew ?_ | refine blk_alloc ?_ _)); refine blk_put (cs := #[.int .i64 t456, .int .i64 0, .bool false, .int .i64 0]) ?_ 1 _ rfl; (with_reducible repeat (first | refine blk_drewN ?_ _ | refine blk_drew ?_ | refine blk_alloc ?_ _)); refine blk_put (cs := #[.int .i64 0, .int .i64 0, .bool false, .int .i64 0]) ?_ 0 _ rfl; (with_reducible repeat (first | refine blk_drewN ?_ _ | refine blk_drew ?_ | refine blk_alloc ?_ _)); refine blk_far ?_ NB461_460.out _; (with_reducible repeat (first | refine blk_drewN ?_ _ | refine blk_drew ?_ | refine blk_alloc ?_ _)); refine blk_far ?_ NB461_460.out _; (with_reducible repeat (first | refine blk_drewN ?_ _ | refine blk_drew ?_ | refine blk_alloc ?_ _)); refine blk_far ?_ NB461_460.out _; (with_reducible repeat (first | refine blk_drewN ?_ _ | refine blk_drew ?_ | refine blk_alloc ?_ _)); refine blk_far ?_ NB461_460.out _; (with_reducible repeat (first | refine blk_drewN ?_ _ | refine blk_drew ?_ | refine blk_alloc ?_ _)); exact BK461.out) hb); replace HB := bs HB hb; (try clear hb); (try clear hb2); (try clear hk); (try clear hi)))
     go_meet
     case rel => exact ⟨_, (true), (by first | rfl | (simp; done) | (simp [*]; done)), H', ⟨by first | omega | exact Nat.le_refl _⟩, ⟨bx BK449⟩, ⟨bx BK450⟩, ⟨bx BK460⟩, ⟨bx BK461⟩, ⟨bw HB⟩⟩
  case rest =>
   clear HC7
   try clear c1
   try clear c2
   try clear p2
   try clear c3
   try clear c4
   try clear c5
   try clear c6
   try clear c8
   try clear c11
   try clear c14
   try clear c15
   try clear c17
   try clear c18
   try clear c19
   try clear c21
   try clear c22
   try clear c24
   try clear c24b0
   try clear c25
   try clear c26
   try clear c27
   try clear c29
   try clear c30
   try clear c33
   try clear c35
   try clear c36
   try clear c37
   try clear c39
   try clear c40
   try clear c42
   try clear c47
   try clear c48
   try clear c49
   try clear c51
   try clear c52
   try clear c54
   try clear hcz12_0
   try clear hcz12_1
   try clear hcz13_0
   try clear hcz13_1
   try clear hcz20_0
   try clear hcz20_1
   try clear hcz20_2
   try clear hcz20_3
   try clear hcz23_0
   try clear hcz23_1
   try clear hcz23_2
   try clear hcz23_3
   try clear hcz28_0
   try clear hcz28_1
   try clear hcz28_2
   try clear hcz28_3
   try clear hcz31_0
   try clear hcz31_1
   try clear hcz31_2
   try clear hcz31_3
   try clear hcz38_0
   try clear hcz38_1
   try clear hcz38_2
   try clear hcz38_3
   try clear hcz41_0
   try clear hcz41_1
   try clear hcz41_2
   try clear hcz41_3
   try clear hcz43_0
   try clear hcz43_1
   try clear hcz45_0
   try clear hcz45_1
   try clear hcz50_0
   try clear hcz50_1
   try clear hcz50_2
   try clear hcz50_3
   try clear hcz53_0
   try clear hcz53_1
   try clear hcz53_2
   try clear hcz53_3
   try clear hcz55_0
   try clear hcz55_1
   try clear hfz12_0
   try clear hfz12_1
   try clear hfz13_0
   try clear hfz13_1
   try clear hfz20_0
   try clear hfz20_1
   try clear hfz20_2
   try clear hfz20_3
   try clear hfz23_0
   try clear hfz23_1
   try clear hfz23_2
   try clear hfz23_3
   try clear hfz28_0
   try clear hfz28_1
   try clear hfz28_2
   try clear hfz28_3
   try clear hfz31_0
   try clear hfz31_1
   try clear hfz31_2
   try clear hfz31_3
   try clear hfz38_0
   try clear hfz38_1
   try clear hfz38_2
   try clear hfz38_3
   try clear hfz41_0
   try clear hfz41_1
   try clear hfz41_2
   try clear hfz41_3
   try clear hfz43_0
   try clear hfz43_1
   try clear hfz45_0
   try clear hfz45_1
   try clear hfz50_0
   try clear hfz50_1
   try clear hfz50_2
   try clear hfz50_3
   try clear hfz53_0
   try clear hfz53_1
   try clear hfz53_2
   try clear hfz53_3
   try clear hfz55_0
   try clear hfz55_1
   obtain ⟨kq, x41_6, rfl, HA, HJ6, BK449, BK450, BK460, BK461, HB⟩ := hcut
   cases kq with
   | zero => exact absurd HA.out (by simp [laws_FnIvSound.j0])
   | succ kj6 =>
    have H := HA.out
    clear HA
    simp only [laws_FnIvSound.j0] at H
    by_cases c57 : x41_6 = true
    ·subst c57
     have H1 : (some ((t452 == t456 && (t453 == t457)) && (t454 == t458 && (t455 == t459)))) = some true := by rw [if_pos rfl] at H; first | done | exact H
     clear H
     have H := H1
     clear H1
     have HE_ := Aside0.mk (Option.some.inj H)
     clear H
     have hnb58 := NB460_449.out
     have hnc58 := NB449_460.out
     have hnb59 := NB460_450.out
     have hnc59 := NB450_460.out
     have hnb60 := NB460_461.out
     have hnc60 := NB461_460.out
     have hcz61_0 : wc.cell? ⟨gb460, 0, none⟩ = some (.int .i64 t452) := (blk_cell BK460.out 0).trans rfl
     have hcz61_1 : wc.cell? ⟨gb460, 1, none⟩ = some (.int .i64 t453) := (blk_cell BK460.out 1).trans rfl
     have hcz61_2 : wc.cell? ⟨gb460, 2, none⟩ = some (.bool t454) := (blk_cell BK460.out 2).trans rfl
     have hcz61_3 : wc.cell? ⟨gb460, 3, none⟩ = some (.int .i64 t455) := (blk_cell BK460.out 3).trans rfl
     have hfz61_0 := blk_frozen BK460.out 0
     have hfz61_1 := blk_frozen BK460.out 1
     have hfz61_2 := blk_frozen BK460.out 2
     have hfz61_3 := blk_frozen BK460.out 3
     have hnb62 := NB461_449.out
     have hnc62 := NB449_461.out
     have hnb63 := NB461_450.out
     have hnc63 := NB450_461.out
     have hcz64_0 : wc.cell? ⟨gb461, 0, none⟩ = some (.int .i64 t456) := (blk_cell BK461.out 0).trans rfl
     have hcz64_1 : wc.cell? ⟨gb461, 1, none⟩ = some (.int .i64 t457) := (blk_cell BK461.out 1).trans rfl
     have hcz64_2 : wc.cell? ⟨gb461, 2, none⟩ = some (.bool t458) := (blk_cell BK461.out 2).trans rfl
     have hcz64_3 : wc.cell? ⟨gb461, 3, none⟩ = some (.int .i64 t459) := (blk_cell BK461.out 3).trans rfl
     have hfz64_0 := blk_frozen BK461.out 0
     have hfz64_1 := blk_frozen BK461.out 1
     have hfz64_2 := blk_frozen BK461.out 2
     have hfz64_3 := blk_frozen BK461.out 3
     go_wp2
     go_ret
     exact ⟨by first | rfl | exact congrArg (fun b_ => Ending.returned (Value.bool b_)) HE_.out | (refine absurd HE_.out ?_; simp [*]; done) | (have h_ := HE_.out; clear HE_; simp_all; done) | (have h_ := HE_.out; clear HE_; simp_all; omega) | (simp [errW_none, errW_some] <;> rfl) | (simp [*, errW_none, errW_some] <;> rfl), bw HB⟩
    ·replace c57 := Bool.eq_false_iff.mpr c57
     subst c57
     have H1 : ((laws_within.f t445 t446 l0 1).bind fun t464 => ((laws_within.f t447 t448 l0 5).bind fun t465 => ((laws_num.f (Int.tmod t451 5) t464 t465).bind fun bt466 => (if (Int.tmod t451 5) ≥ 3 then (laws_FnIvSound.j1 kj6 bt466.1 bt466.2 (t465 == 0) t452 t453 t454 t455) else (laws_FnIvSound.j1 kj6 bt466.1 bt466.2 false t452 t453 t454 t455))))) = some true := by rw [if_neg (show ¬ (false = true) by decide)] at H; first | done | exact H
     clear H
     have H := H1
     clear H1
     replace H := Option.bind_eq_some_iff.mp H
     obtain ⟨t464, A650, H⟩ := H
     replace H : ((laws_within.f t447 t448 l0 5).bind fun t465 => ((laws_num.f (Int.tmod t451 5) t464 t465).bind fun bt466 => (if (Int.tmod t451 5) ≥ 3 then (laws_FnIvSound.j1 kj6 bt466.1 bt466.2 (t465 == 0) t452 t453 t454 t455) else (laws_FnIvSound.j1 kj6 bt466.1 bt466.2 false t452 t453 t454 t455)))) = some true := H
     have A65 := Aside0.mk A650
     clear A650
     replace H := Option.bind_eq_some_iff.mp H
     obtain ⟨t465, A660, H⟩ := H
     replace H : ((laws_num.f (Int.tmod t451 5) t464 t465).bind fun bt466 => (if (Int.tmod t451 5) ≥ 3 then (laws_FnIvSound.j1 kj6 bt466.1 bt466.2 (t465 == 0) t452 t453 t454 t455) else (laws_FnIvSound.j1 kj6 bt466.1 bt466.2 false t452 t453 t454 t455))) = some true := H
     have A66 := Aside0.mk A660
     clear A660
     replace H := Option.bind_eq_some_iff.mp H
     obtain ⟨⟨t466, t467⟩, A670, H⟩ := H
     replace H : (if (Int.tmod t451 5) ≥ 3 then (laws_FnIvSound.j1 kj6 t466 t467 (t465 == 0) t452 t453 t454 t455) else (laws_FnIvSound.j1 kj6 t466 t467 false t452 t453 t454 t455)) = some true := H
     have A67 := Aside0.mk A670
     clear A670
     have HC68 := Aside0.mk H
     clear H
     have hnb69 := NB449_450.out
     have hnc69 := NB450_449.out
     have hnb70 := NB449_460.out
     have hnc70 := NB460_449.out
     have hnb71 := NB449_461.out
     have hnc71 := NB461_449.out
     have hcz72_0 : wc.cell? ⟨gb449, 0, none⟩ = some (.int .i64 t445) := (blk_cell BK449.out 0).trans rfl
     have hcz72_1 : wc.cell? ⟨gb449, 1, none⟩ = some (.int .i64 t446) := (blk_cell BK449.out 1).trans rfl
     have hfz72_0 := blk_frozen BK449.out 0
     have hfz72_1 := blk_frozen BK449.out 1
     go_upto_region 11 with (first | ((with_reducible refine gate_callee (f := 19) rfl ?_); refine goesL_ (some 47) rfl rfl Try.func19 (by kernel_rfl) rfl #[.agg #[.int .i64 t445, .int .i64 t446], .slice A0 l0.length c0, .int .i64 1] rfl (by (try simp only [List.map_toArray, List.map_cons, List.map_nil]); first | done | rfl | (simp only [List.length_drop, List.length_take]; rfl)) ?_; (with_reducible refine (laws_within.calls t445 t446 _ _ l0 1 t464 _ ?side1 ?side2 A65.out).mono ?_); (case side1 => repeat (first | exact (Kd.C_below HR0.out HB.out) | (with_reducible refine Kd.C_alloc ?_ _) | (with_reducible refine Kd.C_drewN ?_ _) | (with_reducible refine Kd.C_drew ?_))); (case side2 => exact HC0.out); rintro e w73 ⟨rfl, hb⟩; refine ⟨_, rfl, ?_⟩; replace BK449 := bb BK449 hb; replace BK450 := bb BK450 hb; replace BK460 := bb BK460 hb; replace BK461 := bb BK461 hb; replace HB := bs HB hb; (try clear hb); (try clear hb2); (try clear hk); (try clear hi); have hnb74 := NB450_460.out; have hnc74 := NB460_450.out; have hnb75 := NB450_461.out; have hnc75 := NB461_450.out; have hcz76_0 : w73.cell? ⟨gb450, 0, none⟩ = some (.int .i64 t447) := (blk_cell BK450.out 0).trans rfl; have hcz76_1 : w73.cell? ⟨gb450, 1, none⟩ = some (.int .i64 t448) := (blk_cell BK450.out 1).trans rfl; have hfz76_0 := blk_frozen BK450.out 0; have hfz76_1 := blk_frozen BK450.out 1) | ((with_reducible refine gate_callee (f := 19) rfl ?_); refine goesL_ (some 50) rfl rfl Try.func19 (by kernel_rfl) rfl #[.agg #[.int .i64 t447, .int .i64 t448], .slice A0 l0.length c0, .int .i64 5] rfl (by (try simp only [List.map_toArray, List.map_cons, List.map_nil]); first | done | rfl | (simp only [List.length_drop, List.length_take]; rfl)) ?_; (with_reducible refine (laws_within.calls t447 t448 _ _ l0 5 t465 _ ?side1 ?side2 A66.out).mono ?_); (case side1 => repeat (first | exact (Kd.C_below HR0.out HB.out) | (with_reducible refine Kd.C_alloc ?_ _) | (with_reducible refine Kd.C_drewN ?_ _) | (with_reducible refine Kd.C_drew ?_))); (case side2 => exact HC0.out); rintro e w77 ⟨rfl, hb⟩; refine ⟨_, rfl, ?_⟩; replace BK449 := bb BK449 hb; replace BK450 := bb BK450 hb; replace BK460 := bb BK460 hb; replace BK461 := bb BK461 hb; replace HB := bs HB hb; (try clear hb); (try clear hb2); (try clear hk); (try clear hi)) | ((with_reducible refine gate_callee (f := 16) rfl ?_); refine goesL_ (some 55) rfl rfl Try.func16 (by kernel_rfl) rfl #[.int .i64 (Int.tmod t451 5), .int .i64 t464, .int .i64 t465] rfl (by (try simp only [List.map_toArray, List.map_cons, List.map_nil]); first | done | rfl | (simp only [List.length_drop, List.length_take]; rfl)) ?_; (with_reducible refine (laws_num.calls (Int.tmod t451 5) t464 t465 t466 t467 _ A67.out).mono ?_); rintro e w' ⟨rfl, ⟨nd, rfl⟩⟩; refine ⟨_, rfl, ?_⟩))
     (try simp only [Act.put, List.setIfInBounds_toArray, List.set_cons_zero, List.set_cons_succ])
     go_cut [58] (fun v58 wc => ∃ (kq : Nat) (x58_67 : Bool), v58 = .bool x58_67 ∧ Aside0 (laws_FnIvSound.j1 kq t466 t467 x58_67 t452 t453 t454 t455 = some true) ∧ Aside0 (kq ≤ kj6) ∧ Aside0 (wc.heap[gb449]? = some (.cells #[.int .i64 t445, .int .i64 t446] 25 (0, 0))) ∧ Aside0 (wc.heap[gb450]? = some (.cells #[.int .i64 t447, .int .i64 t448] 25 (0, 0))) ∧ Aside0 (wc.heap[gb460]? = some (.cells #[.int .i64 t452, .int .i64 t453, .bool t454, .int .i64 t455] 28 (0, 0))) ∧ Aside0 (wc.heap[gb461]? = some (.cells #[.int .i64 t456, .int .i64 t457, .bool t458, .int .i64 t459] 28 (0, 0))) ∧ Aside0 (Below w.heap.size w wc))
     case first =>
      have H := HC68.out
      clear HC68
      by_cases c78 : (Int.tmod t451 5) ≥ 3
      ·rw [if_pos c78] at H
       have c78b0 : decide (3 ≤ (Int.tmod t451 5)) = true := decide_eq_true c78
       clear c78
       (first | rw [c78b0] | (simp only [i64_w, i32_w]; rw [c78b0]) | skip)
       have H' := Aside0.mk H
       clear H
       go_wp2
       go_meet
       case rel => exact ⟨_, ((t465 == 0)), (by first | rfl | (simp; done) | (simp [*]; done)), H', ⟨by have := HJ6.out; first | omega | exact Nat.le_refl _⟩, ⟨bx BK449⟩, ⟨bx BK450⟩, ⟨bx BK460⟩, ⟨bx BK461⟩, ⟨bw HB⟩⟩
      ·rw [if_neg c78] at H
       have c78b0 : decide (3 ≤ (Int.tmod t451 5)) = false := decide_eq_false c78
       clear c78
       (first | rw [c78b0] | (simp only [i64_w, i32_w]; rw [c78b0]) | skip)
       have H' := Aside0.mk H
       clear H
       go_wp2
       go_meet
       case rel => exact ⟨_, (false), (by first | rfl | (simp; done) | (simp [*]; done)), H', ⟨by have := HJ6.out; first | omega | exact Nat.le_refl _⟩, ⟨bx BK449⟩, ⟨bx BK450⟩, ⟨bx BK460⟩, ⟨bx BK461⟩, ⟨bw HB⟩⟩
     case rest =>
      clear HC68
      try clear c1
      try clear c2
      try clear p2
      try clear c3
      try clear c4
      try clear c5
      try clear c6
      try clear c7
      try clear c8
      try clear c11
      try clear c14
      try clear c15
      try clear c16
      try clear c17
      try clear c18
      try clear c19
      try clear c21
      try clear c22
      try clear c24
      try clear c24b0
      try clear c25
      try clear c26
      try clear c27
      try clear c29
      try clear c30
      try clear c33
      try clear c35
      try clear c36
      try clear c37
      try clear c39
      try clear c40
      try clear c42
      try clear c47
      try clear c48
      try clear c49
      try clear c51
      try clear c52
      try clear c54
      try clear c57
      try clear c58
      try clear c59
      try clear c60
      try clear c62
      try clear c63
      try clear c69
      try clear c70
      try clear c71
      try clear c74
      try clear c75
      try clear c78
      try clear c78b0
      try clear hcz12_0
      try clear hcz12_1
      try clear hcz13_0
      try clear hcz13_1
      try clear hcz20_0
      try clear hcz20_1
      try clear hcz20_2
      try clear hcz20_3
      try clear hcz23_0
      try clear hcz23_1
      try clear hcz23_2
      try clear hcz23_3
      try clear hcz28_0
      try clear hcz28_1
      try clear hcz28_2
      try clear hcz28_3
      try clear hcz31_0
      try clear hcz31_1
      try clear hcz31_2
      try clear hcz31_3
      try clear hcz38_0
      try clear hcz38_1
      try clear hcz38_2
      try clear hcz38_3
      try clear hcz41_0
      try clear hcz41_1
      try clear hcz41_2
      try clear hcz41_3
      try clear hcz43_0
      try clear hcz43_1
      try clear hcz45_0
      try clear hcz45_1
      try clear hcz50_0
      try clear hcz50_1
      try clear hcz50_2
      try clear hcz50_3
      try clear hcz53_0
      try clear hcz53_1
      try clear hcz53_2
      try clear hcz53_3
      try clear hcz55_0
      try clear hcz55_1
      try clear hcz61_0
      try clear hcz61_1
      try clear hcz61_2
      try clear hcz61_3
      try clear hcz64_0
      try clear hcz64_1
      try clear hcz64_2
      try clear hcz64_3
      try clear hcz72_0
      try clear hcz72_1
      try clear hcz76_0
      try clear hcz76_1
      try clear hfz12_0
      try clear hfz12_1
      try clear hfz13_0
      try clear hfz13_1
      try clear hfz20_0
      try clear hfz20_1
      try clear hfz20_2
      try clear hfz20_3
      try clear hfz23_0
      try clear hfz23_1
      try clear hfz23_2
      try clear hfz23_3
      try clear hfz28_0
      try clear hfz28_1
      try clear hfz28_2
      try clear hfz28_3
      try clear hfz31_0
      try clear hfz31_1
      try clear hfz31_2
      try clear hfz31_3
      try clear hfz38_0
      try clear hfz38_1
      try clear hfz38_2
      try clear hfz38_3
      try clear hfz41_0
      try clear hfz41_1
      try clear hfz41_2
      try clear hfz41_3
      try clear hfz43_0
      try clear hfz43_1
      try clear hfz45_0
      try clear hfz45_1
      try clear hfz50_0
      try clear hfz50_1
      try clear hfz50_2
      try clear hfz50_3
      try clear hfz53_0
      try clear hfz53_1
      try clear hfz53_2
      try clear hfz53_3
      try clear hfz55_0
      try clear hfz55_1
      try clear hfz61_0
      try clear hfz61_1
      try clear hfz61_2
      try clear hfz61_3
      try clear hfz64_0
      try clear hfz64_1
      try clear hfz64_2
      try clear hfz64_3
      try clear hfz72_0
      try clear hfz72_1
      try clear hfz76_0
      try clear hfz76_1
      try clear p2
      obtain ⟨kq, x58_67, rfl, HA, HJ67, BK449, BK450, BK460, BK461, HB⟩ := hcut
      cases kq with
      | zero => exact absurd HA.out (by simp [laws_FnIvSound.j1])
      | succ kj67 =>
       have H := HA.out
       clear HA
       simp only [laws_FnIvSound.j1] at H
       by_cases c79 : x58_67 = true
       ·subst c79
        have H1 : (some ((Go.bits .and .i64 t455 1) != 0)) = some true := by rw [if_pos rfl] at H; first | done | exact H
        clear H
        have H := H1
        clear H1
        have HE_ := Aside0.mk (Option.some.inj H)
        clear H
        have hnb80 := NB460_449.out
        have hnc80 := NB449_460.out
        have hnb81 := NB460_450.out
        have hnc81 := NB450_460.out
        have hnb82 := NB460_461.out
        have hnc82 := NB461_460.out
        have hcz83_0 : wc.cell? ⟨gb460, 0, none⟩ = some (.int .i64 t452) := (blk_cell BK460.out 0).trans rfl
        have hcz83_1 : wc.cell? ⟨gb460, 1, none⟩ = some (.int .i64 t453) := (blk_cell BK460.out 1).trans rfl
        have hcz83_2 : wc.cell? ⟨gb460, 2, none⟩ = some (.bool t454) := (blk_cell BK460.out 2).trans rfl
        have hcz83_3 : wc.cell? ⟨gb460, 3, none⟩ = some (.int .i64 t455) := (blk_cell BK460.out 3).trans rfl
        have hfz83_0 := blk_frozen BK460.out 0
        have hfz83_1 := blk_frozen BK460.out 1
        have hfz83_2 := blk_frozen BK460.out 2
        have hfz83_3 := blk_frozen BK460.out 3
        go_wp2
        go_ret
        exact ⟨by first | rfl | exact congrArg (fun b_ => Ending.returned (Value.bool b_)) HE_.out | (refine absurd HE_.out ?_; simp [*]; done) | (have h_ := HE_.out; clear HE_; simp_all; done) | (have h_ := HE_.out; clear HE_; simp_all; omega) | (simp [errW_none, errW_some] <;> rfl) | (simp [*, errW_none, errW_some] <;> rfl), bw HB⟩
       ·replace c79 := Bool.eq_false_iff.mpr c79
        subst c79
        have H1 : (if t467 = 0 then (if t454 = true then ((impl_IvHas.f t452 t453 t466).bind fun t468 => (some t468)) else (some false)) else (some ((Go.bits .and .i64 t455 4) != 0))) = some true := by rw [if_neg (show ¬ (false = true) by decide)] at H; first | done | exact H
        clear H
        have H := H1
        clear H1
        by_cases c84 : t467 = 0
        ·rw [if_pos c84] at H
         have c84b0 : (t467 == 0) = true := beq_iff_eq.mpr c84
         have c84b1 : (t467 != 0) = false := bne_eq_false_iff_eq.mpr c84
         clear c84
         by_cases c85 : t454 = true
         ·subst c85
          have H1 : ((impl_IvHas.f t452 t453 t466).bind fun t468 => (some t468)) = some true := by rw [if_pos rfl] at H; first | done | exact H
          clear H
          have H := H1
          clear H1
          replace H := Option.bind_eq_some_iff.mp H
          obtain ⟨t468, A860, H⟩ := H
          replace H : (some t468) = some true := H
          have A86 := Aside0.mk A860
          clear A860
          have HE_ := Aside0.mk (Option.some.inj H)
          clear H
          have hnb87 := NB460_449.out
          have hnc87 := NB449_460.out
          have hnb88 := NB460_450.out
          have hnc88 := NB450_460.out
          have hnb89 := NB460_461.out
          have hnc89 := NB461_460.out
          have hcz90_0 : wc.cell? ⟨gb460, 0, none⟩ = some (.int .i64 t452) := (blk_cell BK460.out 0).trans rfl
          have hcz90_1 : wc.cell? ⟨gb460, 1, none⟩ = some (.int .i64 t453) := (blk_cell BK460.out 1).trans rfl
          have hcz90_2 : wc.cell? ⟨gb460, 2, none⟩ = some (.bool true) := (blk_cell BK460.out 2).trans rfl
          have hcz90_3 : wc.cell? ⟨gb460, 3, none⟩ = some (.int .i64 t455) := (blk_cell BK460.out 3).trans rfl
          have hfz90_0 := blk_frozen BK460.out 0
          have hfz90_1 := blk_frozen BK460.out 1
          have hfz90_2 := blk_frozen BK460.out 2
          have hfz90_3 := blk_frozen BK460.out 3
          go_wp2_with ((go_at_call 20; (with_reducible refine (impl_IvHas.calls t452 t453 t466 t468 _ A86.out).mono ?_); rintro e w91 ⟨rfl, hb⟩; replace BK449 := bb BK449 hb; replace BK450 := bb BK450 hb; replace BK460 := bb BK460 hb; replace BK461 := bb BK461 hb; replace HB := bs HB hb; (try clear hb); (try clear hb2); (try clear hk); (try clear hi)))
          go_ret
          exact ⟨by first | rfl | exact congrArg (fun b_ => Ending.returned (Value.bool b_)) HE_.out | (refine absurd HE_.out ?_; simp [*]; done) | (have h_ := HE_.out; clear HE_; simp_all; done) | (have h_ := HE_.out; clear HE_; simp_all; omega) | (simp [errW_none, errW_some] <;> rfl) | (simp [*, errW_none, errW_some] <;> rfl), bw HB⟩
         ·replace c85 := Bool.eq_false_iff.mpr c85
          subst c85
          have H1 : (some false) = some true := by rw [if_neg (show ¬ (false = true) by decide)] at H; first | done | exact H
          clear H
          have H := H1
          clear H1
          exact absurd (Option.some.inj H) (by decide)
        ·rw [if_neg c84] at H
         have c84b0 : (t467 == 0) = false := beq_eq_false_iff_ne.mpr c84
         have c84b1 : (t467 != 0) = true := bne_iff_ne.mpr c84
         have HE_ := Aside0.mk (Option.some.inj H)
         clear H
         have hnb92 := NB460_449.out
         have hnc92 := NB449_460.out
         have hnb93 := NB460_450.out
         have hnc93 := NB450_460.out
         have hnb94 := NB460_461.out
         have hnc94 := NB461_460.out
         have hcz95_0 : wc.cell? ⟨gb460, 0, none⟩ = some (.int .i64 t452) := (blk_cell BK460.out 0).trans rfl
         have hcz95_1 : wc.cell? ⟨gb460, 1, none⟩ = some (.int .i64 t453) := (blk_cell BK460.out 1).trans rfl
         have hcz95_2 : wc.cell? ⟨gb460, 2, none⟩ = some (.bool t454) := (blk_cell BK460.out 2).trans rfl
         have hcz95_3 : wc.cell? ⟨gb460, 3, none⟩ = some (.int .i64 t455) := (blk_cell BK460.out 3).trans rfl
         have hfz95_0 := blk_frozen BK460.out 0
         have hfz95_1 := blk_frozen BK460.out 1
         have hfz95_2 := blk_frozen BK460.out 2
         have hfz95_3 := blk_frozen BK460.out 3
         go_wp2
         go_ret
         exact ⟨by first | rfl | exact congrArg (fun b_ => Ending.returned (Value.bool b_)) HE_.out | (refine absurd HE_.out ?_; simp [*]; done) | (have h_ := HE_.out; clear HE_; simp_all; done) | (have h_ := HE_.out; clear HE_; simp_all; omega) | (simp [errW_none, errW_some] <;> rfl) | (simp [*, errW_none, errW_some] <;> rfl), bw HB⟩

end Go.Proofs.Ytdjhalelgknnkaa.Q
