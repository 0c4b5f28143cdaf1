-- Contracts of the program's functions, each with the plain function that it computes.
import Derived.Test.YtdjhalelgknnkaaQx0
import Derived.Test.YtdjhalelgknnkaaQx1
import Derived.Test.YtdjhalelgknnkaaQx2
import Derived.Test.YtdjhalelgknnkaaQx21
import Derived.Test.YtdjhalelgknnkaaQx22
import Derived.Test.YtdjhalelgknnkaaQx27
namespace Go.Proofs.Ytdjhalelgknnkaa.Q
open Go.RowKit Go.Proofs.YtdjhalelgknnkaaW.PrintWords Go.Proofs.YtdjhalelgknnkaaW.PrintLast Go.Proofs.YtdjhalelgknnkaaW.PrintMore
attribute [local go_sem] max2_int min2_int max_two min_two max_three min_three max_four min_four   -- for this text's walks alone
set_option linter.unusedVariables false
set_option linter.unusedSimpArgs false

attribute [local go_sem high] eqA28
/-! ### laws_FnIvEnds: function 5 -/
mutual
def laws_FnIvEnds.j0 : Nat → Int → Bool → Int → Int → Int → Int → Int → Int → Bool → Int → Int → Int → Bool → Int → Option (Bool)
 | 0, _, _, _, _, _, _, _, _, _, _, _, _, _, _ => none
 | k + 1, x5, x42, x383000, x383001, x384000, x384001, x394000, x394001, x394002, x394003, x395000, x395001, x395002, x395003 => if x42 = true then (some ((x394000 == x395000 && (x394001 == x395001)) && (x394002 == x395002 && (x394003 == x395003)))) else (laws_FnIvEnds.l0 k x5 false false 0 x383000 x383001 x384000 x384001 x394000 x394001 x394002 x394003)
def laws_FnIvEnds.l0 : Nat → Int → Bool → Bool → Int → Int → Int → Int → Int → Int → Int → Bool → Int → Option (Bool)
 | 0, _, _, _, _, _, _, _, _, _, _, _, _ => none
 | k + 1, x5, x8, x9, x10, x383000, x383001, x384000, x384001, x394000, x394001, x394002, x394003 => if x10 < 4 then ((some (([x383000, x383001] : List Int) : List Int)).bind fun y395 => (if 0 ≤ (Int.tmod x10 2) then (if (Int.tmod x10 2) < (y395.length : Int) then ((some (([x384000, x384001] : List Int) : List Int)).bind fun y399 => (if 0 ≤ (wrap64 (Int.tdiv x10 2)) then (if (wrap64 (Int.tdiv x10 2)) < (y399.length : Int) then ((laws_num.f x5 (rd y395 (Int.tmod x10 2)) (rd y399 (wrap64 (Int.tdiv x10 2)))).bind fun bt403 => (if x8 = true then (if x9 = true then (laws_FnIvEnds.l0 k x5 true true (wrap64 (x10 + 1)) x383000 x383001 x384000 x384001 x394000 x394001 x394002 x394003) else (if bt403.2 = 0 then (laws_FnIvEnds.l0 k x5 true (bt403.1 == x394001) (wrap64 (x10 + 1)) x383000 x383001 x384000 x384001 x394000 x394001 x394002 x394003) else (laws_FnIvEnds.l0 k x5 true false (wrap64 (x10 + 1)) x383000 x383001 x384000 x384001 x394000 x394001 x394002 x394003))) else (if bt403.2 = 0 then (if x9 = true then (laws_FnIvEnds.l0 k x5 (bt403.1 == x394000) true (wrap64 (x10 + 1)) x383000 x383001 x384000 x384001 x394000 x394001 x394002 x394003) else (laws_FnIvEnds.l0 k x5 (bt403.1 == x394000) (bt403.1 == x394001) (wrap64 (x10 + 1)) x383000 x383001 x384000 x384001 x394000 x394001 x394002 x394003)) else (if x9 = true then (laws_FnIvEnds.l0 k x5 false true (wrap64 (x10 + 1)) x383000 x383001 x384000 x384001 x394000 x394001 x394002 x394003) else (laws_FnIvEnds.l0 k x5 false false (wrap64 (x10 + 1)) x383000 x383001 x384000 x384001 x394000 x394001 x394002 x394003))))) else (none)) else (none))) else (none)) else (none))) else (if x8 = true then (some x9) else (some false))
end
def laws_FnIvEnds.f (k : Nat) (l0 : List Int) : Option (Bool) := (laws_big.f l0).bind fun t377 => (if t377 = true then (some true) else ((spec_DrawIvQuo.f k l0).bind fun bt378 => ((laws_byteOf.f l0 4).bind fun t384 => ((laws_op.f k (Int.tmod t384 4) bt378.1 bt378.2.1 bt378.2.2.1 bt378.2.2.2).bind fun bt385 => (if ((!(bt385.1 == bt385.2.2.2.2.1) || (!(bt385.2.1 == bt385.2.2.2.2.2.1))) || (!(bt385.2.2.1 == bt385.2.2.2.2.2.2.1) || (!(bt385.2.2.2.1 == bt385.2.2.2.2.2.2.2)))) = true then (laws_FnIvEnds.j0 k (Int.tmod t384 4) true bt378.1 bt378.2.1 bt378.2.2.1 bt378.2.2.2 bt385.1 bt385.2.1 bt385.2.2.1 bt385.2.2.2.1 bt385.2.2.2.2.1 bt385.2.2.2.2.2.1 bt385.2.2.2.2.2.2.1 bt385.2.2.2.2.2.2.2) else (if bt385.2.2.1 = true then (laws_FnIvEnds.j0 k (Int.tmod t384 4) (bt385.2.2.2.1 != 0) bt378.1 bt378.2.1 bt378.2.2.1 bt378.2.2.2 bt385.1 bt385.2.1 bt385.2.2.1 bt385.2.2.2.1 bt385.2.2.2.2.1 bt385.2.2.2.2.2.1 bt385.2.2.2.2.2.2.1 bt385.2.2.2.2.2.2.2) else (laws_FnIvEnds.j0 k (Int.tmod t384 4) true bt378.1 bt378.2.1 bt378.2.2.1 bt378.2.2.2 bt385.1 bt385.2.1 bt385.2.2.1 bt385.2.2.2.1 bt385.2.2.2.2.1 bt385.2.2.2.2.2.1 bt385.2.2.2.2.2.2.1 bt385.2.2.2.2.2.2.2)))))))
theorem laws_FnIvEnds.mono_l : ∀ k, (∀ y0 y1 y2 y3 y4 y5 y6 y7 y8 y9 y10 y11 y12 y13, LeO (laws_FnIvEnds.j0 k y0 y1 y2 y3 y4 y5 y6 y7 y8 y9 y10 y11 y12 y13) (laws_FnIvEnds.j0 (k + 1) y0 y1 y2 y3 y4 y5 y6 y7 y8 y9 y10 y11 y12 y13)) ∧ (∀ y0 y1 y2 y3 y4 y5 y6 y7 y8 y9 y10 y11, LeO (laws_FnIvEnds.l0 k y0 y1 y2 y3 y4 y5 y6 y7 y8 y9 y10 y11) (laws_FnIvEnds.l0 (k + 1) y0 y1 y2 y3 y4 y5 y6 y7 y8 y9 y10 y11))
 | 0 => ⟨fun _ _ _ _ _ _ _ _ _ _ _ _ _ _ r h => by simp [laws_FnIvEnds.j0] at h, fun _ _ _ _ _ _ _ _ _ _ _ _ r h => by simp [laws_FnIvEnds.l0] at h⟩
 | k + 1 => by
  obtain ⟨ih0, ih1⟩ := laws_FnIvEnds.mono_l k
  refine ⟨?_, ?_⟩
  ·intro y0 y1 y2 y3 y4 y5 y6 y7 y8 y9 y10 y11 y12 y13
   unfold laws_FnIvEnds.j0
   repeat' first
   | (with_reducible exact ih0 _ _ _ _ _ _ _ _ _ _ _ _ _ _)
   | (with_reducible exact ih1 _ _ _ _ _ _ _ _ _ _ _ _)
   | (with_reducible exact laws_op.mono _ _ _ _ _ _)
   | (with_reducible exact spec_DrawIvQuo.mono _ _)
   | (with_reducible exact LeO.refl _)
   | (with_reducible exact LeO.none _)
   | (with_reducible refine LeO.ite ?_ ?_)
   | (with_reducible refine LeO.bind ?_ (fun _ => ?_))
   | exact ih0 _ _ _ _ _ _ _ _ _ _ _ _ _ _
   | exact ih1 _ _ _ _ _ _ _ _ _ _ _ _
   | exact laws_op.mono _ _ _ _ _ _
   | exact spec_DrawIvQuo.mono _ _
   | exact LeO.none _
   | refine LeO.ite ?_ ?_
   | refine LeO.bind ?_ (fun _ => ?_)
  ·intro y0 y1 y2 y3 y4 y5 y6 y7 y8 y9 y10 y11
   unfold laws_FnIvEnds.l0
   repeat' first
   | (with_reducible exact ih0 _ _ _ _ _ _ _ _ _ _ _ _ _ _)
   | (with_reducible exact ih1 _ _ _ _ _ _ _ _ _ _ _ _)
   | (with_reducible exact laws_op.mono _ _ _ _ _ _)
   | (with_reducible exact spec_DrawIvQuo.mono _ _)
   | (with_reducible exact LeO.refl _)
   | (with_reducible exact LeO.none _)
   | (with_reducible refine LeO.ite ?_ ?_)
   | (with_reducible refine LeO.bind ?_ (fun _ => ?_))
   | exact ih0 _ _ _ _ _ _ _ _ _ _ _ _ _ _
   | exact ih1 _ _ _ _ _ _ _ _ _ _ _ _
   | exact laws_op.mono _ _ _ _ _ _
   | exact spec_DrawIvQuo.mono _ _
   | exact LeO.none _
   | refine LeO.ite ?_ ?_
   | refine LeO.bind ?_ (fun _ => ?_)
theorem laws_FnIvEnds.mono : ∀ a0 k, LeO (laws_FnIvEnds.f k a0) (laws_FnIvEnds.f (k + 1) a0) := by
 intro a0 k
 obtain ⟨ih0, ih1⟩ := laws_FnIvEnds.mono_l k
 unfold laws_FnIvEnds.f
 repeat' first
   | (with_reducible exact ih0 _ _ _ _ _ _ _ _ _ _ _ _ _ _)
   | (with_reducible exact ih1 _ _ _ _ _ _ _ _ _ _ _ _)
   | (with_reducible exact laws_op.mono _ _ _ _ _ _)
   | (with_reducible exact spec_DrawIvQuo.mono _ _)
   | (with_reducible exact LeO.refl _)
   | (with_reducible exact LeO.none _)
   | (with_reducible refine LeO.ite ?_ ?_)
   | (with_reducible refine LeO.bind ?_ (fun _ => ?_))
   | exact ih0 _ _ _ _ _ _ _ _ _ _ _ _ _ _
   | exact ih1 _ _ _ _ _ _ _ _ _ _ _ _
   | exact laws_op.mono _ _ _ _ _ _
   | exact spec_DrawIvQuo.mono _ _
   | exact LeO.none _
   | refine LeO.ite ?_ ?_
   | refine LeO.bind ?_ (fun _ => ?_)
def laws_FnIvEnds.T13 : Bool × List (List Nat × List Nat) := (true, [([], []), ([], []), ([1], [1]), ([], []), ([3], [3]), ([2, 4], [2, 4]), ([], []), ([6], [6]), ([5, 7], [5, 7]), ([8], [8]), ([], []), ([10], [10]), ([], []), ([12], [12]), ([11, 13], [11, 13]), ([], []), ([15], [15]), ([14, 16], [14, 16]), ([17], [17]), ([0, 9, 18], [0, 9, 18]), ([19], [19]), ([20], [20]), ([20], [20]), ([21, 19, 0, 1, 2, 3, 4, 5, 6, 7, 8, 9, 10, 11, 12, 13, 14, 15, 16, 17, 18, 19, 20, 21], [21]), ([22, 23, 0, 1, 2, 3, 4, 5, 6, 7, 8, 9, 10, 11, 12, 13, 14, 15, 16, 17, 18, 19, 20, 21, 22, 23], [22])])
def laws_FnIvEnds.B13 : List Nat := [0, 0, 2, 0, 8, 30, 0, 64, 254, 510, 0, 1024, 0, 4096, 15360, 0, 32768, 130048, 261120, 524287, 1048575, 2097151, 2097151, 4194303, 16777215]
theorem laws_FnIvEnds.tab13 : rtab .any (opsOf Try.f5 13) = laws_FnIvEnds.T13 := by kernel_rfl
theorem laws_FnIvEnds.bits13 : waitsOk laws_FnIvEnds.T13.2 laws_FnIvEnds.B13 = true := by kernel_rfl
set_option maxHeartbeats 8000000 in
set_option maxRecDepth 100000 in
theorem laws_FnIvEnds.calls (k : Nat) (A0 : Option Addr) (c0 : Nat) (l0 : List Int) (w : World) (hr0 : Kd.C (Kd.int .u8) w A0 l0.length l0) (hc0 : l0.length ≤ c0) (h : laws_FnIvEnds.f k l0 = some true) :
  Calls Try.prog 5 #[.slice A0 l0.length c0] w fun e w' => e = .returned (.bool true) ∧ Below w.heap.size w w' := by
 have hu25 := Try.underlying25
 have hu28 := Try.underlying28
 have HR0 := Aside0.mk hr0
 have HC0 := Aside0.mk hc0
 clear hr0 hc0
 have HB := Aside0.mk (Below.refl w.heap.size w)
 have H : ((laws_big.f l0).bind fun t377 => (if t377 = true then (some true) else ((spec_DrawIvQuo.f k l0).bind fun bt378 => ((laws_byteOf.f l0 4).bind fun t384 => ((laws_op.f k (Int.tmod t384 4) bt378.1 bt378.2.1 bt378.2.2.1 bt378.2.2.2).bind fun bt385 => (if ((!(bt385.1 == bt385.2.2.2.2.1) || (!(bt385.2.1 == bt385.2.2.2.2.2.1))) || (!(bt385.2.2.1 == bt385.2.2.2.2.2.2.1) || (!(bt385.2.2.2.1 == bt385.2.2.2.2.2.2.2)))) = true then (laws_FnIvEnds.j0 k (Int.tmod t384 4) true bt378.1 bt378.2.1 bt378.2.2.1 bt378.2.2.2 bt385.1 bt385.2.1 bt385.2.2.1 bt385.2.2.2.1 bt385.2.2.2.2.1 bt385.2.2.2.2.2.1 bt385.2.2.2.2.2.2.1 bt385.2.2.2.2.2.2.2) else (if bt385.2.2.1 = true then (laws_FnIvEnds.j0 k (Int.tmod t384 4) (bt385.2.2.2.1 != 0) bt378.1 bt378.2.1 bt378.2.2.1 bt378.2.2.2 bt385.1 bt385.2.1 bt385.2.2.1 bt385.2.2.2.1 bt385.2.2.2.2.1 bt385.2.2.2.2.2.1 bt385.2.2.2.2.2.2.1 bt385.2.2.2.2.2.2.2) else (laws_FnIvEnds.j0 k (Int.tmod t384 4) true bt378.1 bt378.2.1 bt378.2.2.1 bt378.2.2.2 bt385.1 bt385.2.1 bt385.2.2.1 bt385.2.2.2.1 bt385.2.2.2.2.1 bt385.2.2.2.2.2.1 bt385.2.2.2.2.2.2.1 bt385.2.2.2.2.2.2.2)))))))) = some true := h
 clear h
 replace H := Option.bind_eq_some_iff.mp H
 obtain ⟨t377, A20, H⟩ := H
 replace H : (if t377 = true then (some true) else ((spec_DrawIvQuo.f k l0).bind fun bt378 => ((laws_byteOf.f l0 4).bind fun t384 => ((laws_op.f k (Int.tmod t384 4) bt378.1 bt378.2.1 bt378.2.2.1 bt378.2.2.2).bind fun bt385 => (if ((!(bt385.1 == bt385.2.2.2.2.1) || (!(bt385.2.1 == bt385.2.2.2.2.2.1))) || (!(bt385.2.2.1 == bt385.2.2.2.2.2.2.1) || (!(bt385.2.2.2.1 == bt385.2.2.2.2.2.2.2)))) = true then (laws_FnIvEnds.j0 k (Int.tmod t384 4) true bt378.1 bt378.2.1 bt378.2.2.1 bt378.2.2.2 bt385.1 bt385.2.1 bt385.2.2.1 bt385.2.2.2.1 bt385.2.2.2.2.1 bt385.2.2.2.2.2.1 bt385.2.2.2.2.2.2.1 bt385.2.2.2.2.2.2.2) else (if bt385.2.2.1 = true then (laws_FnIvEnds.j0 k (Int.tmod t384 4) (bt385.2.2.2.1 != 0) bt378.1 bt378.2.1 bt378.2.2.1 bt378.2.2.2 bt385.1 bt385.2.1 bt385.2.2.1 bt385.2.2.2.1 bt385.2.2.2.2.1 bt385.2.2.2.2.2.1 bt385.2.2.2.2.2.2.1 bt385.2.2.2.2.2.2.2) else (laws_FnIvEnds.j0 k (Int.tmod t384 4) true bt378.1 bt378.2.1 bt378.2.2.1 bt378.2.2.2 bt385.1 bt385.2.1 bt385.2.2.1 bt385.2.2.2.1 bt385.2.2.2.2.1 bt385.2.2.2.2.2.1 bt385.2.2.2.2.2.2.1 bt385.2.2.2.2.2.2.2))))))) = some true := H
 have A2 := Aside0.mk A20
 clear A20
 by_cases c3 : t377 = true
 ·subst c3
  have H1 : (some true) = some true := by rw [if_pos rfl] at H; first | done | exact H
  clear H
  have H := H1
  clear H1
  have HE_ := Aside0.mk (Option.some.inj H)
  clear H
  go_enter Try.func5, Try.ntmps5
  go_wp2_with (((with_reducible refine gate_callee (f := 8) rfl ?_); refine goesL_ (some 14) rfl rfl Try.func8 (by kernel_rfl) rfl #[.slice A0 l0.length c0] rfl (by (try simp only [List.map_toArray, List.map_cons, List.map_nil]); first | done | rfl | (simp only [List.length_drop, List.length_take]; rfl)) ?_; (with_reducible refine (laws_big.calls _ _ l0 true _ ?side1 ?side2 A2.out).mono ?_); (case side1 => repeat (first | exact HR0.out | (with_reducible refine Kd.C_alloc ?_ _) | (with_reducible refine Kd.C_drewN ?_ _) | (with_reducible refine Kd.C_drew ?_))); (case side2 => exact HC0.out); rintro e w' ⟨rfl, ⟨nd, rfl⟩⟩; refine ⟨_, rfl, ?_⟩))
  go_ret
  exact ⟨by first | rfl | exact congrArg (fun b_ => Ending.returned (Value.bool b_)) HE_.out | (refine absurd HE_.out ?_; simp [*]; done) | (have h_ := HE_.out; clear HE_; simp_all; done) | (have h_ := HE_.out; clear HE_; simp_all; omega) | (simp [errW_none, errW_some] <;> rfl) | (simp [*, errW_none, errW_some] <;> rfl), bw HB⟩
 ·replace c3 := Bool.eq_false_iff.mpr c3
  subst c3
  have H1 : ((spec_DrawIvQuo.f k l0).bind fun bt378 => ((laws_byteOf.f l0 4).bind fun t384 => ((laws_op.f k (Int.tmod t384 4) bt378.1 bt378.2.1 bt378.2.2.1 bt378.2.2.2).bind fun bt385 => (if ((!(bt385.1 == bt385.2.2.2.2.1) || (!(bt385.2.1 == bt385.2.2.2.2.2.1))) || (!(bt385.2.2.1 == bt385.2.2.2.2.2.2.1) || (!(bt385.2.2.2.1 == bt385.2.2.2.2.2.2.2)))) = true then (laws_FnIvEnds.j0 k (Int.tmod t384 4) true bt378.1 bt378.2.1 bt378.2.2.1 bt378.2.2.2 bt385.1 bt385.2.1 bt385.2.2.1 bt385.2.2.2.1 bt385.2.2.2.2.1 bt385.2.2.2.2.2.1 bt385.2.2.2.2.2.2.1 bt385.2.2.2.2.2.2.2) else (if bt385.2.2.1 = true then (laws_FnIvEnds.j0 k (Int.tmod t384 4) (bt385.2.2.2.1 != 0) bt378.1 bt378.2.1 bt378.2.2.1 bt378.2.2.2 bt385.1 bt385.2.1 bt385.2.2.1 bt385.2.2.2.1 bt385.2.2.2.2.1 bt385.2.2.2.2.2.1 bt385.2.2.2.2.2.2.1 bt385.2.2.2.2.2.2.2) else (laws_FnIvEnds.j0 k (Int.tmod t384 4) true bt378.1 bt378.2.1 bt378.2.2.1 bt378.2.2.2 bt385.1 bt385.2.1 bt385.2.2.1 bt385.2.2.2.1 bt385.2.2.2.2.1 bt385.2.2.2.2.2.1 bt385.2.2.2.2.2.2.1 bt385.2.2.2.2.2.2.2)))))) = some true := by rw [if_neg (show ¬ (false = true) by decide)] at H; first | done | exact H
  clear H
  have H := H1
  clear H1
  replace H := Option.bind_eq_some_iff.mp H
  obtain ⟨⟨t378, t379, t380, t381⟩, A40, H⟩ := H
  replace H : ((laws_byteOf.f l0 4).bind fun t384 => ((laws_op.f k (Int.tmod t384 4) t378 t379 t380 t381).bind fun bt385 => (if ((!(bt385.1 == bt385.2.2.2.2.1) || (!(bt385.2.1 == bt385.2.2.2.2.2.1))) || (!(bt385.2.2.1 == bt385.2.2.2.2.2.2.1) || (!(bt385.2.2.2.1 == bt385.2.2.2.2.2.2.2)))) = true then (laws_FnIvEnds.j0 k (Int.tmod t384 4) true t378 t379 t380 t381 bt385.1 bt385.2.1 bt385.2.2.1 bt385.2.2.2.1 bt385.2.2.2.2.1 bt385.2.2.2.2.2.1 bt385.2.2.2.2.2.2.1 bt385.2.2.2.2.2.2.2) else (if bt385.2.2.1 = true then (laws_FnIvEnds.j0 k (Int.tmod t384 4) (bt385.2.2.2.1 != 0) t378 t379 t380 t381 bt385.1 bt385.2.1 bt385.2.2.1 bt385.2.2.2.1 bt385.2.2.2.2.1 bt385.2.2.2.2.2.1 bt385.2.2.2.2.2.2.1 bt385.2.2.2.2.2.2.2) else (laws_FnIvEnds.j0 k (Int.tmod t384 4) true t378 t379 t380 t381 bt385.1 bt385.2.1 bt385.2.2.1 bt385.2.2.2.1 bt385.2.2.2.2.1 bt385.2.2.2.2.2.1 bt385.2.2.2.2.2.2.1 bt385.2.2.2.2.2.2.2))))) = some true := H
  have A4 := Aside0.mk A40
  clear A40
  replace H := Option.bind_eq_some_iff.mp H
  obtain ⟨t384, A50, H⟩ := H
  replace H : ((laws_op.f k (Int.tmod t384 4) t378 t379 t380 t381).bind fun bt385 => (if ((!(bt385.1 == bt385.2.2.2.2.1) || (!(bt385.2.1 == bt385.2.2.2.2.2.1))) || (!(bt385.2.2.1 == bt385.2.2.2.2.2.2.1) || (!(bt385.2.2.2.1 == bt385.2.2.2.2.2.2.2)))) = true then (laws_FnIvEnds.j0 k (Int.tmod t384 4) true t378 t379 t380 t381 bt385.1 bt385.2.1 bt385.2.2.1 bt385.2.2.2.1 bt385.2.2.2.2.1 bt385.2.2.2.2.2.1 bt385.2.2.2.2.2.2.1 bt385.2.2.2.2.2.2.2) else (if bt385.2.2.1 = true then (laws_FnIvEnds.j0 k (Int.tmod t384 4) (bt385.2.2.2.1 != 0) t378 t379 t380 t381 bt385.1 bt385.2.1 bt385.2.2.1 bt385.2.2.2.1 bt385.2.2.2.2.1 bt385.2.2.2.2.2.1 bt385.2.2.2.2.2.2.1 bt385.2.2.2.2.2.2.2) else (laws_FnIvEnds.j0 k (Int.tmod t384 4) true t378 t379 t380 t381 bt385.1 bt385.2.1 bt385.2.2.1 bt385.2.2.2.1 bt385.2.2.2.2.1 bt385.2.2.2.2.2.1 bt385.2.2.2.2.2.2.1 bt385.2.2.2.2.2.2.2)))) = some true := H
  have A5 := Aside0.mk A50
  clear A50
  replace H := Option.bind_eq_some_iff.mp H
  obtain ⟨⟨t385, t386, t387, t388, t389, t390, t391, t392⟩, A60, H⟩ := H
  replace H : (if ((!(t385 == t389) || (!(t386 == t390))) || (!(t387 == t391) || (!(t388 == t392)))) = true then (laws_FnIvEnds.j0 k (Int.tmod t384 4) true t378 t379 t380 t381 t385 t386 t387 t388 t389 t390 t391 t392) else (if t387 = true then (laws_FnIvEnds.j0 k (Int.tmod t384 4) (t388 != 0) t378 t379 t380 t381 t385 t386 t387 t388 t389 t390 t391 t392) else (laws_FnIvEnds.j0 k (Int.tmod t384 4) true t378 t379 t380 t381 t385 t386 t387 t388 t389 t390 t391 t392))) = some true := H
  have A6 := Aside0.mk A60
  clear A60
  have HC7 := Aside0.mk H
  clear H
  go_enter Try.func5, Try.ntmps5
  go_upto_region 6 with (first | ((with_reducible refine gate_callee (f := 8) rfl ?_); refine goesL_ (some 14) rfl rfl Try.func8 (by kernel_rfl) rfl #[.slice A0 l0.length c0] rfl (by (try simp only [List.map_toArray, List.map_cons, List.map_nil]); first | done | rfl | (simp only [List.length_drop, List.length_take]; rfl)) ?_; (with_reducible refine (laws_big.calls _ _ l0 false _ ?side1 ?side2 A2.out).mono ?_); (case side1 => repeat (first | exact HR0.out | (with_reducible refine Kd.C_alloc ?_ _) | (with_reducible refine Kd.C_drewN ?_ _) | (with_reducible refine Kd.C_drew ?_))); (case side2 => exact HC0.out); rintro e w' ⟨rfl, ⟨nd, rfl⟩⟩; refine ⟨_, rfl, ?_⟩) | ((with_reducible refine gate_callee (f := 17) rfl ?_); refine goesL_ (some 17) rfl rfl Try.func17 (by kernel_rfl) rfl #[.slice A0 l0.length c0] rfl (by (try simp only [List.map_toArray, List.map_cons, List.map_nil]); first | done | rfl | (simp only [List.length_drop, List.length_take]; rfl)) ?_; (with_reducible refine (spec_DrawIvQuo.calls k _ _ l0 t378 t379 t380 t381 _ ?side1 ?side2 A4.out).mono ?_); (case side1 => repeat (first | exact HR0.out | (with_reducible refine Kd.C_alloc ?_ _) | (with_reducible refine Kd.C_drewN ?_ _) | (with_reducible refine Kd.C_drew ?_))); (case side2 => exact HC0.out); rintro e w8 ⟨rfl, hb⟩; refine ⟨_, rfl, ?_⟩; replace HB := bs HB hb; (try clear hb); (try clear hb2); (try clear hk); (try clear hi)) | ((with_reducible refine gate_dst (N := 3) rfl ?_); refine box_event rfl rfl (cs := #[.int .i64 0, .int .i64 0]) (t := 25) (by first | (go_simp; done) | (go_simp; rfl)) ?_; intro gb382 hg w9 hbox hb; have BK382 := Aside0.mk (hbox); have GW382 := bz HB hg; have GE382 := bz HB hg; replace HB := bs HB hb; clear hb hbox hg) | ((with_reducible refine gate_dst (N := 4) rfl ?_); refine box_event rfl rfl (cs := #[.int .i64 0, .int .i64 0]) (t := 25) (by first | (go_simp; done) | (go_simp; rfl)) ?_; intro gb383 hg w10 hbox hb; have BK383 := Aside0.mk (hbox); have GW383 := bz HB hg; have GE383 := bz HB hg; replace HB := bs HB hb; have NB382_383 := bl BK382 hg; have NB383_382 := bg BK382 hg; replace BK382 := bb BK382 hb; clear hb hbox hg; have hnb11 := NB382_383.out; have hnc11 := NB383_382.out; have hcz12_0 : w10.cell? ⟨gb382, 0, none⟩ = some (.int .i64 0) := (blk_cell BK382.out 0).trans rfl; have hcz12_1 : w10.cell? ⟨gb382, 1, none⟩ = some (.int .i64 0) := (blk_cell BK382.out 1).trans rfl; have hfz12_0 := blk_frozen BK382.out 0; have hfz12_1 := blk_frozen BK382.out 1; have hcz13_0 : w10.cell? ⟨gb383, 0, none⟩ = some (.int .i64 0) := (blk_cell BK383.out 0).trans rfl; have hcz13_1 : w10.cell? ⟨gb383, 1, none⟩ = some (.int .i64 0) := (blk_cell BK383.out 1).trans rfl; have hfz13_0 := blk_frozen BK383.out 0; have hfz13_1 := blk_frozen BK383.out 1) | ((with_reducible refine gate_callee (f := 14) rfl ?_); refine goesL_ (some 21) rfl rfl Try.func14 (by kernel_rfl) rfl #[.slice A0 l0.length c0, .int .i64 4] rfl (by (try simp only [List.map_toArray, List.map_cons, List.map_nil]); first | done | rfl | (simp only [List.length_drop, List.length_take]; rfl)) ?_; (with_reducible refine (laws_byteOf.calls _ _ l0 4 t384 _ ?side1 ?side2 A5.out).mono ?_); (case side1 => exact Kd.C_below HR0.out (bw HB)); (case side2 => exact HC0.out); rintro e w' ⟨rfl, ⟨nd, rfl⟩⟩; refine ⟨_, rfl, ?_⟩) | ((with_reducible refine gate_callee (f := 15) rfl ?_); refine goesL_ (some 27) rfl rfl Try.func15 (by kernel_rfl) rfl #[.int .i64 (Int.tmod t384 4), .agg #[.int .i64 t378, .int .i64 t379], .agg #[.int .i64 t380, .int .i64 t381]] rfl (by (try simp only [List.map_toArray, List.map_cons, List.map_nil]); first | done | rfl | (simp only [List.length_drop, List.length_take]; rfl)) ?_; (with_reducible refine (laws_op.calls k (Int.tmod t384 4) t378 t379 t380 t381 t385 t386 t387 t388 t389 t390 t391 t392 _ A6.out).mono ?_); rintro e w14 ⟨rfl, hb⟩; refine ⟨_, rfl, ?_⟩; replace BK382 := Aside0.mk (blk_below (g := gb382) (o := .cells #[.int .i64 t378, .int .i64 t379] 25 (0, 0)) (by (with_reducible repeat (first | refine blk_drewN ?_ _ | refine blk_drew ?_ | refine blk_alloc ?_ _)); refine blk_far ?_ NB382_383.out _; (with_reducible repeat (first | refine blk_drewN ?_ _ | refine blk_drew ?_ | refine blk_alloc ?_ _)); refine blk_far ?_ NB382_383.out _; (with_reducible repeat (first | refine blk_drewN ?_ _ | refine blk_drew ?_ | refine blk_alloc ?_ _)); refine blk_put (cs := #[.int .i64 t378, .int .i64 0]) ?_ 1 _ rfl; (with_reducible repeat (first | refine blk_drewN ?_ _ | refine blk_drew ?_ | refine blk_alloc ?_ _)); refine blk_put (cs := #[.int .i64 0, .int .i64 0]) ?_ 0 _ rfl; (with_reducible repeat (first | refine blk_drewN ?_ _ | refine blk_drew ?_ | refine blk_alloc ?_ _)); exact BK382.out) hb); replace BK383 := Aside0.mk (blk_below (g := gb383) (o := .cells #[.int .i64 t380, .int .i64 t381] 25 (0, 0)) (by (with_reducible repeat (first | refine blk_drewN ?_ _ | refine blk_drew ?_ | refine blk_alloc ?_ _)); refine blk_put (cs := #[.int .i64 t380, .int .i64 0]) ?_ 1 _ rfl; (with_reducible repeat (first | refine blk_drewN ?_ _ | refine blk_drew ?_ | refine blk_alloc ?_ _)); refine blk_put (cs := #[.int .i64 0, .int .i64 0]) ?_ 0 _ rfl; (with_reducible repeat (first | refine blk_drewN ?_ _ | refine blk_drew ?_ | refine blk_alloc ?_ _)); refine blk_far ?_ NB383_382.out _; (with_reducible repeat (first | refine blk_drewN ?_ _ | refine blk_drew ?_ | refine blk_alloc ?_ _)); refine blk_far ?_ NB383_382.out _; (with_reducible repeat (first | refine blk_drewN ?_ _ | refine blk_drew ?_ | refine blk_alloc ?_ _)); exact BK383.out) hb); replace HB := bs HB hb; (try clear hb); (try clear hb2); (try clear hk); (try clear hi)) | ((with_reducible refine gate_dst (N := 6) rfl ?_); refine box_event rfl rfl (cs := #[.int .i64 0, .int .i64 0, .bool false, .int .i64 0]) (t := 28) (by first | (go_simp; done) | (go_simp; rfl)) ?_; intro gb393 hg w15 hbox hb; have BK393 := Aside0.mk (hbox); have GW393 := bz HB hg; have GE393 := bz HB hg; replace HB := bs HB hb; have NB382_393 := bl BK382 hg; have NB393_382 := bg BK382 hg; replace BK382 := bb BK382 hb; have NB383_393 := bl BK383 hg; have NB393_383 := bg BK383 hg; replace BK383 := bb BK383 hb; clear hb hbox hg) | ((with_reducible refine gate_dst (N := 7) rfl ?_); refine box_event rfl rfl (cs := #[.int .i64 0, .int .i64 0, .bool false, .int .i64 0]) (t := 28) (by first | (go_simp; done) | (go_simp; rfl)) ?_; intro gb394 hg w16 hbox hb; have BK394 := Aside0.mk (hbox); have GW394 := bz HB hg; have GE394 := bz HB hg; replace HB := bs HB hb; have NB382_394 := bl BK382 hg; have NB394_382 := bg BK382 hg; replace BK382 := bb BK382 hb; have NB383_394 := bl BK383 hg; have NB394_383 := bg BK383 hg; replace BK383 := bb BK383 hb; have NB393_394 := bl BK393 hg; have NB394_393 := bg BK393 hg; replace BK393 := bb BK393 hb; clear hb hbox hg; have hnb17 := NB393_382.out; have hnc17 := NB382_393.out; have hnb18 := NB393_383.out; have hnc18 := NB383_393.out; have hnb19 := NB393_394.out; have hnc19 := NB394_393.out; have hcz20_0 : w16.cell? ⟨gb393, 0, none⟩ = some (.int .i64 0) := (blk_cell BK393.out 0).trans rfl; have hcz20_1 : w16.cell? ⟨gb393, 1, none⟩ = some (.int .i64 0) := (blk_cell BK393.out 1).trans rfl; have hcz20_2 : w16.cell? ⟨gb393, 2, none⟩ = some (.bool false) := (blk_cell BK393.out 2).trans rfl; have hcz20_3 : w16.cell? ⟨gb393, 3, none⟩ = some (.int .i64 0) := (blk_cell BK393.out 3).trans rfl; have hfz20_0 := blk_frozen BK393.out 0; have hfz20_1 := blk_frozen BK393.out 1; have hfz20_2 := blk_frozen BK393.out 2; have hfz20_3 := blk_frozen BK393.out 3; have hnb21 := NB394_382.out; have hnc21 := NB382_394.out; have hnb22 := NB394_383.out; have hnc22 := NB383_394.out; have hcz23_0 : w16.cell? ⟨gb394, 0, none⟩ = some (.int .i64 0) := (blk_cell BK394.out 0).trans rfl; have hcz23_1 : w16.cell? ⟨gb394, 1, none⟩ = some (.int .i64 0) := (blk_cell BK394.out 1).trans rfl; have hcz23_2 : w16.cell? ⟨gb394, 2, none⟩ = some (.bool false) := (blk_cell BK394.out 2).trans rfl; have hcz23_3 : w16.cell? ⟨gb394, 3, none⟩ = some (.int .i64 0) := (blk_cell BK394.out 3).trans rfl; have hfz23_0 := blk_frozen BK394.out 0; have hfz23_1 := blk_frozen BK394.out 1; have hfz23_2 := blk_frozen BK394.out 2; have hfz23_3 := blk_frozen BK394.out 3))
  (try simp only [Act.put, List.setIfInBounds_toArray, List.set_cons_zero, List.set_cons_succ])
  go_cut [42] (fun v42 wc => ∃ (kq : Nat) (x42_6 : Bool), v42 = .bool x42_6 ∧ Aside0 (laws_FnIvEnds.j0 kq (Int.tmod t384 4) x42_6 t378 t379 t380 t381 t385 t386 t387 t388 t389 t390 t391 t392 = some true) ∧ Aside0 (kq ≤ k) ∧ Aside0 (wc.heap[gb382]? = some (.cells #[.int .i64 t378, .int .i64 t379] 25 (0, 0))) ∧ Aside0 (wc.heap[gb383]? = some (.cells #[.int .i64 t380, .int .i64 t381] 25 (0, 0))) ∧ Aside0 (wc.heap[gb393]? = some (.cells #[.int .i64 t385, .int .i64 t386, .bool t387, .int .i64 t388] 28 (0, 0))) ∧ Aside0 (wc.heap[gb394]? = some (.cells #[.int .i64 t389, .int .i64 t390, .bool t391, .int .i64 t392] 28 (0, 0))) ∧ Aside0 (Below w.heap.size w wc))
  case first =>
   have H := HC7.out
   clear HC7
   by_cases c24 : ((!(t385 == t389) || (!(t386 == t390))) || (!(t387 == t391) || (!(t388 == t392)))) = true
   ·rw [if_pos c24] at H
    have c24b0 : ((!(t385 == t389) || (!(t386 == t390))) || (!(t387 == t391) || (!(t388 == t392)))) = true := c24
    clear c24
    (first | rw [c24b0] | (simp only [i64_w, i32_w]; rw [c24b0]) | skip)
    have H' := Aside0.mk H
    clear H
    have hnb25 := NB393_382.out
    have hnc25 := NB382_393.out
    have hnb26 := NB393_383.out
    have hnc26 := NB383_393.out
    have hnb27 := NB393_394.out
    have hnc27 := NB394_393.out
    have hcz28_0 : w16.cell? ⟨gb393, 0, none⟩ = some (.int .i64 0) := (blk_cell BK393.out 0).trans rfl
    have hcz28_1 : w16.cell? ⟨gb393, 1, none⟩ = some (.int .i64 0) := (blk_cell BK393.out 1).trans rfl
    have hcz28_2 : w16.cell? ⟨gb393, 2, none⟩ = some (.bool false) := (blk_cell BK393.out 2).trans rfl
    have hcz28_3 : w16.cell? ⟨gb393, 3, none⟩ = some (.int .i64 0) := (blk_cell BK393.out 3).trans rfl
    have hfz28_0 := blk_frozen BK393.out 0
    have hfz28_1 := blk_frozen BK393.out 1
    have hfz28_2 := blk_frozen BK393.out 2
    have hfz28_3 := blk_frozen BK393.out 3
    have hnb29 := NB394_382.out
    have hnc29 := NB382_394.out
    have hnb30 := NB394_383.out
    have hnc30 := NB383_394.out
    have hcz31_0 : w16.cell? ⟨gb394, 0, none⟩ = some (.int .i64 0) := (blk_cell BK394.out 0).trans rfl
    have hcz31_1 : w16.cell? ⟨gb394, 1, none⟩ = some (.int .i64 0) := (blk_cell BK394.out 1).trans rfl
    have hcz31_2 : w16.cell? ⟨gb394, 2, none⟩ = some (.bool false) := (blk_cell BK394.out 2).trans rfl
    have hcz31_3 : w16.cell? ⟨gb394, 3, none⟩ = some (.int .i64 0) := (blk_cell BK394.out 3).trans rfl
    have hfz31_0 := blk_frozen BK394.out 0
    have hfz31_1 := blk_frozen BK394.out 1
    have hfz31_2 := blk_frozen BK394.out 2
    have hfz31_3 := blk_frozen BK394.out 3
    go_wp2
    go_meet
    case rel => exact ⟨_, (true), (by first | rfl | (simp; done) | (simp [*]; done)), H', ⟨by first | omega | exact Nat.le_refl _⟩, ⟨bx BK382⟩, ⟨bx BK383⟩, ⟨by (with_reducible repeat (first | refine blk_drewN ?_ _ | refine blk_drew ?_ | refine blk_alloc ?_ _)); refine blk_far ?_ NB393_394.out _; (with_reducible repeat (first | refine blk_drewN ?_ _ | refine blk_drew ?_ | refine blk_alloc ?_ _)); refine blk_far ?_ NB393_394.out _; (with_reducible repeat (first | refine blk_drewN ?_ _ | refine blk_drew ?_ | refine blk_alloc ?_ _)); refine blk_far ?_ NB393_394.out _; (with_reducible repeat (first | refine blk_drewN ?_ _ | refine blk_drew ?_ | refine blk_alloc ?_ _)); refine blk_far ?_ NB393_394.out _; (with_reducible repeat (first | refine blk_drewN ?_ _ | refine blk_drew ?_ | refine blk_alloc ?_ _)); refine blk_put (cs := #[.int .i64 t385, .int .i64 t386, .bool t387, .int .i64 0]) ?_ 3 _ rfl; (with_reducible repeat (first | refine blk_drewN ?_ _ | refine blk_drew ?_ | refine blk_alloc ?_ _)); refine blk_put (cs := #[.int .i64 t385, .int .i64 t386, .bool false, .int .i64 0]) ?_ 2 _ rfl; (with_reducible repeat (first | refine blk_drewN ?_ _ | refine blk_drew ?_ | refine blk_alloc ?_ _)); refine blk_put (cs := #[.int .i64 t385, .int .i64 0, .bool false, .int .i64 0]) ?_ 1 _ rfl; (with_reducible repeat (first | refine blk_drewN ?_ _ | refine blk_drew ?_ | refine blk_alloc ?_ _)); refine blk_put (cs := #[.int .i64 0, .int .i64 0, .bool false, .int .i64 0]) ?_ 0 _ rfl; (with_reducible repeat (first | refine blk_drewN ?_ _ | refine blk_drew ?_ | refine blk_alloc ?_ _)); exact BK393.out⟩, ⟨by (with_reducible repeat (first | refine blk_drewN ?_ _ | refine blk_drew ?_ | refine blk_alloc ?_ _)); refine blk_put (cs := #[.int .i64 t389, .int .i64 t390, .bool t391, .int .i64 0]) ?_ 3 _ rfl; (with_reducible repeat (first | refine blk_drewN ?_ _ | refine blk_drew ?_ | refine blk_alloc ?_ _)); refine blk_put (cs := #[.int .i64 t389, .int .i64 t390, .bool false, .int .i64 0]) ?_ 2 _ rfl; (with_reducible repeat (first | refine blk_drewN ?_ _ | refine blk_drew ?_ | refine blk_alloc ?_ _)); refine blk_put (cs := #[.int .i64 t389, .int .i64 0, .bool false, .int .i64 0]) ?_ 1 _ rfl; (with_reducible repeat (first | refine blk_drewN ?_ _ | refine blk_drew ?_ | refine blk_alloc ?_ _)); refine blk_put (cs := #[.int .i64 0, .int .i64 0, .bool false, .int .i64 0]) ?_ 0 _ rfl; (with_reducible repeat (first | refine blk_drewN ?_ _ | refine blk_drew ?_ | refine blk_alloc ?_ _)); refine blk_far ?_ NB394_393.out _; (with_reducible repeat (first | refine blk_drewN ?_ _ | refine blk_drew ?_ | refine blk_alloc ?_ _)); refine blk_far ?_ NB394_393.out _; (with_reducible repeat (first | refine blk_drewN ?_ _ | refine blk_drew ?_ | refine blk_alloc ?_ _)); refine blk_far ?_ NB394_393.out _; (with_reducible repeat (first | refine blk_drewN ?_ _ | refine blk_drew ?_ | refine blk_alloc ?_ _)); refine blk_far ?_ NB394_393.out _; (with_reducible repeat (first | refine blk_drewN ?_ _ | refine blk_drew ?_ | refine blk_alloc ?_ _)); exact BK394.out⟩, ⟨bw HB⟩⟩
   ·rw [if_neg c24] at H
    have c24b0 : ((!(t385 == t389) || (!(t386 == t390))) || (!(t387 == t391) || (!(t388 == t392)))) = false := by simpa using c24
    clear c24
    (first | rw [c24b0] | (simp only [i64_w, i32_w]; rw [c24b0]) | skip)
    obtain ⟨e1_, e2_, e3_, e4_⟩ : t385 = t389 ∧ t386 = t390 ∧ t387 = t391 ∧ t388 = t392 := by simpa [and_assoc] using c24b0
    clear c24b0
    subst e1_ e2_ e3_ e4_
    by_cases c32 : t387 = true
    ·subst c32
     have H1 : (laws_FnIvEnds.j0 k (Int.tmod t384 4) (t388 != 0) t378 t379 t380 t381 t385 t386 true t388 t385 t386 true t388) = some true := by rw [if_pos rfl] at H; first | done | exact H
     clear H
     have H := H1
     clear H1
     have H' := Aside0.mk H
     clear H
     have hnb33 := NB393_382.out
     have hnc33 := NB382_393.out
     have hnb34 := NB393_383.out
     have hnc34 := NB383_393.out
     have hnb35 := NB393_394.out
     have hnc35 := NB394_393.out
     have hcz36_0 : w16.cell? ⟨gb393, 0, none⟩ = some (.int .i64 0) := (blk_cell BK393.out 0).trans rfl
     have hcz36_1 : w16.cell? ⟨gb393, 1, none⟩ = some (.int .i64 0) := (blk_cell BK393.out 1).trans rfl
     have hcz36_2 : w16.cell? ⟨gb393, 2, none⟩ = some (.bool false) := (blk_cell BK393.out 2).trans rfl
     have hcz36_3 : w16.cell? ⟨gb393, 3, none⟩ = some (.int .i64 0) := (blk_cell BK393.out 3).trans rfl
     have hfz36_0 := blk_frozen BK393.out 0
     have hfz36_1 := blk_frozen BK393.out 1
     have hfz36_2 := blk_frozen BK393.out 2
     have hfz36_3 := blk_frozen BK393.out 3
     have hnb37 := NB394_382.out
     have hnc37 := NB382_394.out
     have hnb38 := NB394_383.out
     have hnc38 := NB383_394.out
     have hcz39_0 : w16.cell? ⟨gb394, 0, none⟩ = some (.int .i64 0) := (blk_cell BK394.out 0).trans rfl
     have hcz39_1 : w16.cell? ⟨gb394, 1, none⟩ = some (.int .i64 0) := (blk_cell BK394.out 1).trans rfl
     have hcz39_2 : w16.cell? ⟨gb394, 2, none⟩ = some (.bool false) := (blk_cell BK394.out 2).trans rfl
     have hcz39_3 : w16.cell? ⟨gb394, 3, none⟩ = some (.int .i64 0) := (blk_cell BK394.out 3).trans rfl
     have hfz39_0 := blk_frozen BK394.out 0
     have hfz39_1 := blk_frozen BK394.out 1
     have hfz39_2 := blk_frozen BK394.out 2
     have hfz39_3 := blk_frozen BK394.out 3
     go_wp2
     go_meet
     case rel => exact ⟨_, ((t388 != 0)), (by first | rfl | (simp; done) | (simp [*]; done)), H', ⟨by first | omega | exact Nat.le_refl _⟩, ⟨bx BK382⟩, ⟨bx BK383⟩, ⟨by (with_reducible repeat (first | refine blk_drewN ?_ _ | refine blk_drew ?_ | refine blk_alloc ?_ _)); refine blk_far ?_ NB393_394.out _; (with_reducible repeat (first | refine blk_drewN ?_ _ | refine blk_drew ?_ | refine blk_alloc ?_ _)); refine blk_far ?_ NB393_394.out _; (with_reducible repeat (first | refine blk_drewN ?_ _ | refine blk_drew ?_ | refine blk_alloc ?_ _)); refine blk_far ?_ NB393_394.out _; (with_reducible repeat (first | refine blk_drewN ?_ _ | refine blk_drew ?_ | refine blk_alloc ?_ _)); refine blk_far ?_ NB393_394.out _; (with_reducible repeat (first | refine blk_drewN ?_ _ | refine blk_drew ?_ | refine blk_alloc ?_ _)); refine blk_put (cs := #[.int .i64 t385, .int .i64 t386, .bool true, .int .i64 0]) ?_ 3 _ rfl; (with_reducible repeat (first | refine blk_drewN ?_ _ | refine blk_drew ?_ | refine blk_alloc ?_ _)); refine blk_put (cs := #[.int .i64 t385, .int .i64 t386, .bool false, .int .i64 0]) ?_ 2 _ rfl; (with_reducible repeat (first | refine blk_drewN ?_ _ | refine blk_drew ?_ | refine blk_alloc ?_ _)); refine blk_put (cs := #[.int .i64 t385, .int .i64 0, .bool false, .int .i64 0]) ?_ 1 _ rfl; (with_reducible repeat (first | refine blk_drewN ?_ _ | refine blk_drew ?_ | refine blk_alloc ?_ _)); refine blk_put (cs := #[.int .i64 0, .int .i64 0, .bool false, .int .i64 0]) ?_ 0 _ rfl; (with_reducible repeat (first | refine blk_drewN ?_ _ | refine blk_drew ?_ | refine blk_alloc ?_ _)); exact BK393.out⟩, ⟨by (with_reducible repeat (first | refine blk_drewN ?_ _ | refine blk_drew ?_ | refine blk_alloc ?_ _)); refine blk_put (cs := #[.int .i64 t385, .int .i64 t386, .bool true, .int .i64 0]) ?_ 3 _ rfl; (with_reducible repeat (first | refine blk_drewN ?_ _ | refine blk_drew ?_ | refine blk_alloc ?_ _)); refine blk_put (cs := #[.int .i64 t385, .int .i64 t386, .bool false, .int .i64 0]) ?_ 2 _ rfl; (with_reducible repeat (first | refine blk_drewN ?_ _ | refine blk_drew ?_ | refine blk_alloc ?_ _)); refine blk_put (cs := #[.int .i64 t385, .int .i64 0, .bool false, .int .i64 0]) ?_ 1 _ rfl; (with_reducible repeat (first | refine blk_drewN ?_ _ | refine blk_drew ?_ | refine blk_alloc ?_ _)); refine blk_put (cs := #[.int .i64 0, .int .i64 0, .bool false, .int .i64 0]) ?_ 0 _ rfl; (with_reducible repeat (first | refine blk_drewN ?_ _ | refine blk_drew ?_ | refine blk_alloc ?_ _)); refine blk_far ?_ NB394_393.out _; (with_reducible repeat (first | refine blk_drewN ?_ _ | refine blk_drew ?_ | refine blk_alloc ?_ _)); refine blk_far ?_ NB394_393.out _; (with_reducible repeat (first | refine blk_drewN ?_ _ | refine blk_drew ?_ | refine blk_alloc ?_ _)); refine blk_far ?_ NB394_393.out _; (with_reducible repeat (first | refine blk_drewN ?_ _ | refine blk_drew ?_ | refine blk_alloc ?_ _)); refine blk_far ?_ NB394_393.out _; (with_reducible repeat (first | refine blk_drewN ?_ _ | refine blk_drew ?_ | refine blk_alloc ?_ _)); exact BK394.out⟩, ⟨bw HB⟩⟩
    ·replace c32 := Bool.eq_false_iff.mpr c32
     subst c32
     have H1 : (laws_FnIvEnds.j0 k (Int.tmod t384 4) true t378 t379 t380 t381 t385 t386 false t388 t385 t386 false t388) = some true := by rw [if_neg (show ¬ (false = true) by decide)] at H; first | done | exact H
     clear H
     have H := H1
     clear H1
     have H' := Aside0.mk H
     clear H
     have hnb40 := NB393_382.out
     have hnc40 := NB382_393.out
     have hnb41 := NB393_383.out
     have hnc41 := NB383_393.out
     have hnb42 := NB393_394.out
     have hnc42 := NB394_393.out
     have hcz43_0 : w16.cell? ⟨gb393, 0, none⟩ = some (.int .i64 0) := (blk_cell BK393.out 0).trans rfl
     have hcz43_1 : w16.cell? ⟨gb393, 1, none⟩ = some (.int .i64 0) := (blk_cell BK393.out 1).trans rfl
     have hcz43_2 : w16.cell? ⟨gb393, 2, none⟩ = some (.bool false) := (blk_cell BK393.out 2).trans rfl
     have hcz43_3 : w16.cell? ⟨gb393, 3, none⟩ = some (.int .i64 0) := (blk_cell BK393.out 3).trans rfl
     have hfz43_0 := blk_frozen BK393.out 0
     have hfz43_1 := blk_frozen BK393.out 1
     have hfz43_2 := blk_frozen BK393.out 2
     have hfz43_3 := blk_frozen BK393.out 3
     have hnb44 := NB394_382.out
     have hnc44 := NB382_394.out
     have hnb45 := NB394_383.out
     have hnc45 := NB383_394.out
     have hcz46_0 : w16.cell? ⟨gb394, 0, none⟩ = some (.int .i64 0) := (blk_cell BK394.out 0).trans rfl
     have hcz46_1 : w16.cell? ⟨gb394, 1, none⟩ = some (.int .i64 0) := (blk_cell BK394.out 1).trans rfl
     have hcz46_2 : w16.cell? ⟨gb394, 2, none⟩ = some (.bool false) := (blk_cell BK394.out 2).trans rfl
     have hcz46_3 : w16.cell? ⟨gb394, 3, none⟩ = some (.int .i64 0) := (blk_cell BK394.out 3).trans rfl
     have hfz46_0 := blk_frozen BK394.out 0
     have hfz46_1 := blk_frozen BK394.out 1
     have hfz46_2 := blk_frozen BK394.out 2
     have hfz46_3 := blk_frozen BK394.out 3
     go_wp2
     go_meet
     case rel => exact ⟨_, (true), (by first | rfl | (simp; done) | (simp [*]; done)), H', ⟨by first | omega | exact Nat.le_refl _⟩, ⟨bx BK382⟩, ⟨bx BK383⟩, ⟨by (with_reducible repeat (first | refine blk_drewN ?_ _ | refine blk_drew ?_ | refine blk_alloc ?_ _)); refine blk_far ?_ NB393_394.out _; (with_reducible repeat (first | refine blk_drewN ?_ _ | refine blk_drew ?_ | refine blk_alloc ?_ _)); refine blk_far ?_ NB393_394.out _; (with_reducible repeat (first | refine blk_drewN ?_ _ | refine blk_drew ?_ | refine blk_alloc ?_ _)); refine blk_far ?_ NB393_394.out _; (with_reducible repeat (first | refine blk_drewN ?_ _ | refine blk_drew ?_ | refine blk_alloc ?_ _)); refine blk_far ?_ NB393_394.out _; (with_reducible repeat (first | refine blk_drewN ?_ _ | refine blk_drew ?_ | refine blk_alloc ?_ _)); refine blk_put (cs := #[.int .i64 t385, .int .i64 t386, .bool false, .int .i64 0]) ?_ 3 _ rfl; (with_reducible repeat (first | refine blk_drewN ?_ _ | refine blk_drew ?_ | refine blk_alloc ?_ _)); refine blk_put (cs := #[.int .i64 t385, .int .i64 t386, .bool false, .int .i64 0]) ?_ 2 _ rfl; (with_reducible repeat (first | refine blk_drewN ?_ _ | refine blk_drew ?_ | refine blk_alloc ?_ _)); refine blk_put (cs := #[.int .i64 t385, .int .i64 0, .bool false, .int .i64 0]) ?_ 1 _ rfl; (with_reducible repeat (first | refine blk_drewN ?_ _ | refine blk_drew ?_ | refine blk_alloc ?_ _)); refine blk_put (cs := #[.int .i64 0, .int .i64 0, .bool false, .int .i64 0]) ?_ 0 _ rfl; (with_reducible repeat (first | refine blk_drewN ?_ _ | refine blk_drew ?_ | refine blk_alloc ?_ _)); exact BK393.out⟩, ⟨by (with_reducible repeat (first | refine blk_drewN ?_ _ | refine blk_drew ?_ | refine blk_alloc ?_ _)); refine blk_put (cs := #[.int .i64 t385, .int .i64 t386, .bool false, .int .i64 0]) ?_ 3 _ rfl; (with_reducible repeat (first | refine blk_drewN ?_ _ | refine blk_drew ?_ | refine blk_alloc ?_ _)); refine blk_put (cs := #[.int .i64 t385, .int .i64 t386, .bool false, .int .i64 0]) ?_ 2 _ rfl; (with_reducible repeat (first | refine blk_drewN ?_ _ | refine blk_drew ?_ | refine blk_alloc ?_ _)); refine blk_put (cs := #[.int .i64 t385, .int .i64 0, .bool false, .int .i64 0]) ?_ 1 _ rfl; (with_reducible repeat (first | refine blk_drewN ?_ _ | refine blk_drew ?_ | refine blk_alloc ?_ _)); refine blk_put (cs := #[.int .i64 0, .int .i64 0, .bool false, .int .i64 0]) ?_ 0 _ rfl; (with_reducible repeat (first | refine blk_drewN ?_ _ | refine blk_drew ?_ | refine blk_alloc ?_ _)); refine blk_far ?_ NB394_393.out _; (with_reducible repeat (first | refine blk_drewN ?_ _ | refine blk_drew ?_ | refine blk_alloc ?_ _)); refine blk_far ?_ NB394_393.out _; (with_reducible repeat (first | refine blk_drewN ?_ _ | refine blk_drew ?_ | refine blk_alloc ?_ _)); refine blk_far ?_ NB394_393.out _; (with_reducible repeat (first | refine blk_drewN ?_ _ | refine blk_drew ?_ | refine blk_alloc ?_ _)); refine blk_far ?_ NB394_393.out _; (with_reducible repeat (first | refine blk_drewN ?_ _ | refine blk_drew ?_ | refine blk_alloc ?_ _)); exact BK394.out⟩, ⟨bw HB⟩⟩
  case rest =>
   clear HC7
   try clear c1
   try clear c2
   try clear p2
   try clear c3
   try clear c4
   try clear c5
   try clear c8
   try clear c11
   try clear c14
   try clear c15
   try clear c17
   try clear c18
   try clear c19
   try clear c21
   try clear c22
   try clear c24
   try clear c24b0
   try clear c25
   try clear c26
   try clear c27
   try clear c29
   try clear c30
   try clear c32
   try clear c33
   try clear c34
   try clear c35
   try clear c37
   try clear c38
   try clear c40
   try clear c41
   try clear c42
   try clear c44
   try clear c45
   try clear hcz12_0
   try clear hcz12_1
   try clear hcz13_0
   try clear hcz13_1
   try clear hcz20_0
   try clear hcz20_1
   try clear hcz20_2
   try clear hcz20_3
   try clear hcz23_0
   try clear hcz23_1
   try clear hcz23_2
   try clear hcz23_3
   try clear hcz28_0
   try clear hcz28_1
   try clear hcz28_2
   try clear hcz28_3
   try clear hcz31_0
   try clear hcz31_1
   try clear hcz31_2
   try clear hcz31_3
   try clear hcz36_0
   try clear hcz36_1
   try clear hcz36_2
   try clear hcz36_3
   try clear hcz39_0
   try clear hcz39_1
   try clear hcz39_2
   try clear hcz39_3
   try clear hcz43_0
   try clear hcz43_1
   try clear hcz43_2
   try clear hcz43_3
   try clear hcz46_0
   try clear hcz46_1
   try clear hcz46_2
   try clear hcz46_3
   try clear hfz12_0
   try clear hfz12_1
   try clear hfz13_0
   try clear hfz13_1
   try clear hfz20_0
   try clear hfz20_1
   try clear hfz20_2
   try clear hfz20_3
   try clear hfz23_0
   try clear hfz23_1
   try clear hfz23_2
   try clear hfz23_3
   try clear hfz28_0
   try clear hfz28_1
   try clear hfz28_2
   try clear hfz28_3
   try clear hfz31_0
   try clear hfz31_1
   try clear hfz31_2
   try clear hfz31_3
   try clear hfz36_0
   try clear hfz36_1
   try clear hfz36_2
   try clear hfz36_3
   try clear hfz39_0
   try clear hfz39_1
   try clear hfz39_2
   try clear hfz39_3
   try clear hfz43_0
   try clear hfz43_1
   try clear hfz43_2
   try clear hfz43_3
   try clear hfz46_0
   try clear hfz46_1
   try clear hfz46_2
   try clear hfz46_3
   obtain ⟨kq, x42_6, rfl, HA, HJ6, BK382, BK383, BK393, BK394, HB⟩ := hcut
   cases kq with
   | zero => exact absurd HA.out (by simp [laws_FnIvEnds.j0])
   | succ kj6 =>
    have H := HA.out
    clear HA
    simp only [laws_FnIvEnds.j0] at H
    by_cases c47 : x42_6 = true
    ·subst c47
     have H1 : (some ((t385 == t389 && (t386 == t390)) && (t387 == t391 && (t388 == t392)))) = some true := by rw [if_pos rfl] at H; first | done | exact H
     clear H
     have H := H1
     clear H1
     have HE_ := Aside0.mk (Option.some.inj H)
     clear H
     have hnb48 := NB393_382.out
     have hnc48 := NB382_393.out
     have hnb49 := NB393_383.out
     have hnc49 := NB383_393.out
     have hnb50 := NB393_394.out
     have hnc50 := NB394_393.out
     have hcz51_0 : wc.cell? ⟨gb393, 0, none⟩ = some (.int .i64 t385) := (blk_cell BK393.out 0).trans rfl
     have hcz51_1 : wc.cell? ⟨gb393, 1, none⟩ = some (.int .i64 t386) := (blk_cell BK393.out 1).trans rfl
     have hcz51_2 : wc.cell? ⟨gb393, 2, none⟩ = some (.bool t387) := (blk_cell BK393.out 2).trans rfl
     have hcz51_3 : wc.cell? ⟨gb393, 3, none⟩ = some (.int .i64 t388) := (blk_cell BK393.out 3).trans rfl
     have hfz51_0 := blk_frozen BK393.out 0
     have hfz51_1 := blk_frozen BK393.out 1
     have hfz51_2 := blk_frozen BK393.out 2
     have hfz51_3 := blk_frozen BK393.out 3
     have hnb52 := NB394_382.out
     have hnc52 := NB382_394.out
     have hnb53 := NB394_383.out
     have hnc53 := NB383_394.out
     have hcz54_0 : wc.cell? ⟨gb394, 0, none⟩ = some (.int .i64 t389) := (blk_cell BK394.out 0).trans rfl
     have hcz54_1 : wc.cell? ⟨gb394, 1, none⟩ = some (.int .i64 t390) := (blk_cell BK394.out 1).trans rfl
     have hcz54_2 : wc.cell? ⟨gb394, 2, none⟩ = some (.bool t391) := (blk_cell BK394.out 2).trans rfl
     have hcz54_3 : wc.cell? ⟨gb394, 3, none⟩ = some (.int .i64 t392) := (blk_cell BK394.out 3).trans rfl
     have hfz54_0 := blk_frozen BK394.out 0
     have hfz54_1 := blk_frozen BK394.out 1
     have hfz54_2 := blk_frozen BK394.out 2
     have hfz54_3 := blk_frozen BK394.out 3
     go_wp2
     go_ret
     exact ⟨by first | rfl | exact congrArg (fun b_ => Ending.returned (Value.bool b_)) HE_.out | (refine absurd HE_.out ?_; simp [*]; done) | (have h_ := HE_.out; clear HE_; simp_all; done) | (have h_ := HE_.out; clear HE_; simp_all; omega) | (simp [errW_none, errW_some] <;> rfl) | (simp [*, errW_none, errW_some] <;> rfl), bw HB⟩
    ·replace c47 := Bool.eq_false_iff.mpr c47
     subst c47
     have H1 : (laws_FnIvEnds.l0 kj6 (Int.tmod t384 4) false false 0 t378 t379 t380 t381 t385 t386 t387 t388) = some true := by rw [if_neg (show ¬ (false = true) by decide)] at H; first | done | exact H
     clear H
     have H := H1
     clear H1
     have H' := Aside0.mk H
     clear H
     go_wp2
     go_loopg [8, 9, 10] kj6 (fun kq v8 v9 v10 w' => ∃ (x8_2 : Bool) (x9_2 : Bool) (x10_2 : Int), v8 = .bool x8_2 ∧ v9 = .bool x9_2 ∧ v10 = .int .i64 x10_2 ∧ Aside0 (laws_FnIvEnds.l0 kq (Int.tmod t384 4) x8_2 x9_2 x10_2 t378 t379 t380 t381 t385 t386 t387 t388 = some true) ∧ Aside0 (kq ≤ kj6) ∧ Aside0 (w'.heap[gb382]? = some (.cells #[.int .i64 t378, .int .i64 t379] 25 (0, 0))) ∧ Aside0 (w'.heap[gb383]? = some (.cells #[.int .i64 t380, .int .i64 t381] 25 (0, 0))) ∧ Aside0 (w'.heap[gb393]? = some (.cells #[.int .i64 t385, .int .i64 t386, .bool t387, .int .i64 t388] 28 (0, 0))) ∧ Aside0 (w'.heap[gb394]? = some (.cells #[.int .i64 t389, .int .i64 t390, .bool t391, .int .i64 t392] 28 (0, 0))) ∧ Aside0 (Below w.heap.size w w'))
     case atStart => exact ⟨(false), (false), (0), (by first | rfl | (simp; done) | (simp [*]; done)), (by first | rfl | (simp; done) | (simp [*]; done)), (by first | rfl | (simp; done) | (simp [*]; done)), H', ⟨Nat.le_refl _⟩, ⟨bx BK382⟩, ⟨bx BK383⟩, ⟨bx BK393⟩, ⟨bx BK394⟩, ⟨bw HB⟩⟩
     case round =>
      clear H'
      try clear c1
      try clear c2
      try clear p2
      try clear c3
      try clear c4
      try clear c5
      try clear c8
      try clear c11
      try clear c14
      try clear c15
      try clear c17
      try clear c18
      try clear c19
      try clear c21
      try clear c22
      try clear c24
      try clear c24b0
      try clear c25
      try clear c26
      try clear c27
      try clear c29
      try clear c30
      try clear c32
      try clear c33
      try clear c34
      try clear c35
      try clear c37
      try clear c38
      try clear c40
      try clear c41
      try clear c42
      try clear c44
      try clear c45
      try clear c47
      try clear c48
      try clear c49
      try clear c50
      try clear c52
      try clear c53
      try clear hcz12_0
      try clear hcz12_1
      try clear hcz13_0
      try clear hcz13_1
      try clear hcz20_0
      try clear hcz20_1
      try clear hcz20_2
      try clear hcz20_3
      try clear hcz23_0
      try clear hcz23_1
      try clear hcz23_2
      try clear hcz23_3
      try clear hcz28_0
      try clear hcz28_1
      try clear hcz28_2
      try clear hcz28_3
      try clear hcz31_0
      try clear hcz31_1
      try clear hcz31_2
      try clear hcz31_3
      try clear hcz36_0
      try clear hcz36_1
      try clear hcz36_2
      try clear hcz36_3
      try clear hcz39_0
      try clear hcz39_1
      try clear hcz39_2
      try clear hcz39_3
      try clear hcz43_0
      try clear hcz43_1
      try clear hcz43_2
      try clear hcz43_3
      try clear hcz46_0
      try clear hcz46_1
      try clear hcz46_2
      try clear hcz46_3
      try clear hcz51_0
      try clear hcz51_1
      try clear hcz51_2
      try clear hcz51_3
      try clear hcz54_0
      try clear hcz54_1
      try clear hcz54_2
      try clear hcz54_3
      try clear hfz12_0
      try clear hfz12_1
      try clear hfz13_0
      try clear hfz13_1
      try clear hfz20_0
      try clear hfz20_1
      try clear hfz20_2
      try clear hfz20_3
      try clear hfz23_0
      try clear hfz23_1
      try clear hfz23_2
      try clear hfz23_3
      try clear hfz28_0
      try clear hfz28_1
      try clear hfz28_2
      try clear hfz28_3
      try clear hfz31_0
      try clear hfz31_1
      try clear hfz31_2
      try clear hfz31_3
      try clear hfz36_0
      try clear hfz36_1
      try clear hfz36_2
      try clear hfz36_3
      try clear hfz39_0
      try clear hfz39_1
      try clear hfz39_2
      try clear hfz39_3
      try clear hfz43_0
      try clear hfz43_1
      try clear hfz43_2
      try clear hfz43_3
      try clear hfz46_0
      try clear hfz46_1
      try clear hfz46_2
      try clear hfz46_3
      try clear hfz51_0
      try clear hfz51_1
      try clear hfz51_2
      try clear hfz51_3
      try clear hfz54_0
      try clear hfz54_1
      try clear hfz54_2
      try clear hfz54_3
      try clear p2
      obtain ⟨x8_2, x9_2, x10_2, rfl, rfl, rfl, HA, HK2, BK382, BK383, BK393, BK394, HB⟩ := hrel
      cases gk with
      | zero => exact absurd HA.out (by simp [laws_FnIvEnds.l0])
      | succ k2 =>
       have H := HA.out
       clear HA
       simp only [laws_FnIvEnds.l0] at H
       by_cases c55 : x10_2 < 4
       ·rw [if_pos c55] at H
        have c55b0 : decide (x10_2 < 4) = true := decide_eq_true c55
        clear c55
        obtain ⟨y395, hy395⟩ : ∃ y_ : List Int, y_ = (([t378, t379] : List Int)) := ⟨_, rfl⟩
        replace H : (if 0 ≤ (Int.tmod x10_2 2) then (if (Int.tmod x10_2 2) < (y395.length : Int) then ((some (([t380, t381] : List Int) : List Int)).bind fun y399 => (if 0 ≤ (wrap64 (Int.tdiv x10_2 2)) then (if (wrap64 (Int.tdiv x10_2 2)) < (y399.length : Int) then ((laws_num.f (Int.tmod t384 4) (rd y395 (Int.tmod x10_2 2)) (rd y399 (wrap64 (Int.tdiv x10_2 2)))).bind fun bt403 => (if x8_2 = true then (if x9_2 = true then (laws_FnIvEnds.l0 k2 (Int.tmod t384 4) true true (wrap64 (x10_2 + 1)) t378 t379 t380 t381 t385 t386 t387 t388) else (if bt403.2 = 0 then (laws_FnIvEnds.l0 k2 (Int.tmod t384 4) true (bt403.1 == t386) (wrap64 (x10_2 + 1)) t378 t379 t380 t381 t385 t386 t387 t388) else (laws_FnIvEnds.l0 k2 (Int.tmod t384 4) true false (wrap64 (x10_2 + 1)) t378 t379 t380 t381 t385 t386 t387 t388))) else (if bt403.2 = 0 then (if x9_2 = true then (laws_FnIvEnds.l0 k2 (Int.tmod t384 4) (bt403.1 == t385) true (wrap64 (x10_2 + 1)) t378 t379 t380 t381 t385 t386 t387 t388) else (laws_FnIvEnds.l0 k2 (Int.tmod t384 4) (bt403.1 == t385) (bt403.1 == t386) (wrap64 (x10_2 + 1)) t378 t379 t380 t381 t385 t386 t387 t388)) else (if x9_2 = true then (laws_FnIvEnds.l0 k2 (Int.tmod t384 4) false true (wrap64 (x10_2 + 1)) t378 t379 t380 t381 t385 t386 t387 t388) else (laws_FnIvEnds.l0 k2 (Int.tmod t384 4) false false (wrap64 (x10_2 + 1)) t378 t379 t380 t381 t385 t386 t387 t388))))) else (none)) else (none))) else (none)) else (none)) = some true := by first | (rw [hy395]; with_reducible exact H) | (have H2_ := (Option.bind_some _ _).symm.trans H; rw [hy395]; with_reducible exact H2_) | (have H2_ := (Option.bind_some _ _).symm.trans H; with_reducible exact H2_) | with_reducible exact H | (rw [hy395]; exact H) | exact H
        have Ny395 := Aside0.mk hy395
        clear hy395
        obtain ⟨ji56, hji56⟩ : ∃ j_ : Int, (Int.tmod x10_2 2) = j_ := ⟨_, rfl⟩
        replace H : (if 0 ≤ (ji56) then (if (ji56) < (y395.length : Int) then ((some (([t380, t381] : List Int) : List Int)).bind fun y399 => (if 0 ≤ (wrap64 (Int.tdiv x10_2 2)) then (if (wrap64 (Int.tdiv x10_2 2)) < (y399.length : Int) then ((laws_num.f (Int.tmod t384 4) (rd y395 (ji56)) (rd y399 (wrap64 (Int.tdiv x10_2 2)))).bind fun bt403 => (if x8_2 = true then (if x9_2 = true then (laws_FnIvEnds.l0 k2 (Int.tmod t384 4) true true (wrap64 (x10_2 + 1)) t378 t379 t380 t381 t385 t386 t387 t388) else (if bt403.2 = 0 then (laws_FnIvEnds.l0 k2 (Int.tmod t384 4) true (bt403.1 == t386) (wrap64 (x10_2 + 1)) t378 t379 t380 t381 t385 t386 t387 t388) else (laws_FnIvEnds.l0 k2 (Int.tmod t384 4) true false (wrap64 (x10_2 + 1)) t378 t379 t380 t381 t385 t386 t387 t388))) else (if bt403.2 = 0 then (if x9_2 = true then (laws_FnIvEnds.l0 k2 (Int.tmod t384 4) (bt403.1 == t385) true (wrap64 (x10_2 + 1)) t378 t379 t380 t381 t385 t386 t387 t388) else (laws_FnIvEnds.l0 k2 (Int.tmod t384 4) (bt403.1 == t385) (bt403.1 == t386) (wrap64 (x10_2 + 1)) t378 t379 t380 t381 t385 t386 t387 t388)) else (if x9_2 = true then (laws_FnIvEnds.l0 k2 (Int.tmod t384 4) false true (wrap64 (x10_2 + 1)) t378 t379 t380 t381 t385 t386 t387 t388) else (laws_FnIvEnds.l0 k2 (Int.tmod t384 4) false false (wrap64 (x10_2 + 1)) t378 t379 t380 t381 t385 t386 t387 t388))))) else (none)) else (none))) else (none)) else (none)) = some true := by first | (rw [hji56] at H; first | done | exact H) | (simp only [hji56] at H ⊢; exact H)
        by_cases c57 : 0 ≤ (ji56)
        ·rw [if_pos c57] at H
         have c57b0 : decide (0 ≤ (ji56)) = true := decide_eq_true c57
         clear c57
         by_cases c58 : (ji56) < (y395.length : Int)
         ·rw [if_pos c58] at H
          have c58b0 : decide ((ji56) < (y395.length : Int)) = true := decide_eq_true c58
          clear c58
          obtain ⟨y399, hy399⟩ : ∃ y_ : List Int, y_ = (([t380, t381] : List Int)) := ⟨_, rfl⟩
          replace H : (if 0 ≤ (wrap64 (Int.tdiv x10_2 2)) then (if (wrap64 (Int.tdiv x10_2 2)) < (y399.length : Int) then ((laws_num.f (Int.tmod t384 4) (rd y395 (ji56)) (rd y399 (wrap64 (Int.tdiv x10_2 2)))).bind fun bt403 => (if x8_2 = true then (if x9_2 = true then (laws_FnIvEnds.l0 k2 (Int.tmod t384 4) true true (wrap64 (x10_2 + 1)) t378 t379 t380 t381 t385 t386 t387 t388) else (if bt403.2 = 0 then (laws_FnIvEnds.l0 k2 (Int.tmod t384 4) true (bt403.1 == t386) (wrap64 (x10_2 + 1)) t378 t379 t380 t381 t385 t386 t387 t388) else (laws_FnIvEnds.l0 k2 (Int.tmod t384 4) true false (wrap64 (x10_2 + 1)) t378 t379 t380 t381 t385 t386 t387 t388))) else (if bt403.2 = 0 then (if x9_2 = true then (laws_FnIvEnds.l0 k2 (Int.tmod t384 4) (bt403.1 == t385) true (wrap64 (x10_2 + 1)) t378 t379 t380 t381 t385 t386 t387 t388) else (laws_FnIvEnds.l0 k2 (Int.tmod t384 4) (bt403.1 == t385) (bt403.1 == t386) (wrap64 (x10_2 + 1)) t378 t379 t380 t381 t385 t386 t387 t388)) else (if x9_2 = true then (laws_FnIvEnds.l0 k2 (Int.tmod t384 4) false true (wrap64 (x10_2 + 1)) t378 t379 t380 t381 t385 t386 t387 t388) else (laws_FnIvEnds.l0 k2 (Int.tmod t384 4) false false (wrap64 (x10_2 + 1)) t378 t379 t380 t381 t385 t386 t387 t388))))) else (none)) else (none)) = some true := by first | (rw [hy399]; with_reducible exact H) | (have H2_ := (Option.bind_some _ _).symm.trans H; rw [hy399]; with_reducible exact H2_) | (have H2_ := (Option.bind_some _ _).symm.trans H; with_reducible exact H2_) | with_reducible exact H | (rw [hy399]; exact H) | exact H
          have Ny399 := Aside0.mk hy399
          clear hy399
          obtain ⟨ji59, hji59⟩ : ∃ j_ : Int, (wrap64 (Int.tdiv x10_2 2)) = j_ := ⟨_, rfl⟩
          replace H : (if 0 ≤ (ji59) then (if (ji59) < (y399.length : Int) then ((laws_num.f (Int.tmod t384 4) (rd y395 (ji56)) (rd y399 (ji59))).bind fun bt403 => (if x8_2 = true then (if x9_2 = true then (laws_FnIvEnds.l0 k2 (Int.tmod t384 4) true true (wrap64 (x10_2 + 1)) t378 t379 t380 t381 t385 t386 t387 t388) else (if bt403.2 = 0 then (laws_FnIvEnds.l0 k2 (Int.tmod t384 4) true (bt403.1 == t386) (wrap64 (x10_2 + 1)) t378 t379 t380 t381 t385 t386 t387 t388) else (laws_FnIvEnds.l0 k2 (Int.tmod t384 4) true false (wrap64 (x10_2 + 1)) t378 t379 t380 t381 t385 t386 t387 t388))) else (if bt403.2 = 0 then (if x9_2 = true then (laws_FnIvEnds.l0 k2 (Int.tmod t384 4) (bt403.1 == t385) true (wrap64 (x10_2 + 1)) t378 t379 t380 t381 t385 t386 t387 t388) else (laws_FnIvEnds.l0 k2 (Int.tmod t384 4) (bt403.1 == t385) (bt403.1 == t386) (wrap64 (x10_2 + 1)) t378 t379 t380 t381 t385 t386 t387 t388)) else (if x9_2 = true then (laws_FnIvEnds.l0 k2 (Int.tmod t384 4) false true (wrap64 (x10_2 + 1)) t378 t379 t380 t381 t385 t386 t387 t388) else (laws_FnIvEnds.l0 k2 (Int.tmod t384 4) false false (wrap64 (x10_2 + 1)) t378 t379 t380 t381 t385 t386 t387 t388))))) else (none)) else (none)) = some true := by first | (rw [hji59] at H; first | done | exact H) | (simp only [hji59] at H ⊢; exact H)
          have hji59w : (IntKind.i64.wrap (Int.tdiv x10_2 2)) = ji59 := (i64_w _).trans hji59
          by_cases c60 : 0 ≤ (ji59)
          ·rw [if_pos c60] at H
           have c60b0 : decide (0 ≤ (ji59)) = true := decide_eq_true c60
           clear c60
           by_cases c61 : (ji59) < (y399.length : Int)
           ·rw [if_pos c61] at H
            have c61b0 : decide ((ji59) < (y399.length : Int)) = true := decide_eq_true c61
            clear c61
            replace H := Option.bind_eq_some_iff.mp H
            obtain ⟨⟨t403, t404⟩, A620, H⟩ := H
            replace H : (if x8_2 = true then (if x9_2 = true then (laws_FnIvEnds.l0 k2 (Int.tmod t384 4) true true (wrap64 (x10_2 + 1)) t378 t379 t380 t381 t385 t386 t387 t388) else (if t404 = 0 then (laws_FnIvEnds.l0 k2 (Int.tmod t384 4) true (t403 == t386) (wrap64 (x10_2 + 1)) t378 t379 t380 t381 t385 t386 t387 t388) else (laws_FnIvEnds.l0 k2 (Int.tmod t384 4) true false (wrap64 (x10_2 + 1)) t378 t379 t380 t381 t385 t386 t387 t388))) else (if t404 = 0 then (if x9_2 = true then (laws_FnIvEnds.l0 k2 (Int.tmod t384 4) (t403 == t385) true (wrap64 (x10_2 + 1)) t378 t379 t380 t381 t385 t386 t387 t388) else (laws_FnIvEnds.l0 k2 (Int.tmod t384 4) (t403 == t385) (t403 == t386) (wrap64 (x10_2 + 1)) t378 t379 t380 t381 t385 t386 t387 t388)) else (if x9_2 = true then (laws_FnIvEnds.l0 k2 (Int.tmod t384 4) false true (wrap64 (x10_2 + 1)) t378 t379 t380 t381 t385 t386 t387 t388) else (laws_FnIvEnds.l0 k2 (Int.tmod t384 4) false false (wrap64 (x10_2 + 1)) t378 t379 t380 t381 t385 t386 t387 t388)))) = some true := H
            have A62 := Aside0.mk A620
            clear A620
            have HH_ := Aside0.mk H
            clear H
            try go_wp2
            have pi398 : (0 ≤ ((ji56) : Int)) = True := eq_true (of_decide_eq_true (by first | (with_reducible assumption) | assumption))
            have qi398 : ((ji56) < (y395.length : Int)) = True := eq_true (of_decide_eq_true (by first | (with_reducible assumption) | assumption))
            have pi402 : (0 ≤ ((ji59) : Int)) = True := eq_true (of_decide_eq_true (by first | (with_reducible assumption) | assumption))
            have qi402 : ((ji59) < (y399.length : Int)) = True := eq_true (of_decide_eq_true (by first | (with_reducible assumption) | assumption))
            have n0_ := Aside0.mk (blk_drew BK382.out)
            have n1_ := Aside0.mk (blk_drew BK383.out)
            have n2_ := Aside0.mk (blk_drew BK393.out)
            have n3_ := Aside0.mk (blk_drew BK394.out)
            have n4_ := Aside0.mk (below_drew1 HB.out)
            clear BK382
            clear BK383
            clear BK393
            clear BK394
            clear HB
            have BK382 := n0_
            have BK383 := n1_
            have BK393 := n2_
            have BK394 := n3_
            have HB := n4_
            clear n0_ n1_ n2_ n3_ n4_
            refine start_ (n := 25) (S := fun w' => w'.cell? ⟨gb382, 0, none⟩ = some (.int .i64 t378) ∧ w'.cell? ⟨gb382, 1, none⟩ = some (.int .i64 t379) ∧ w'.cell? ⟨gb383, 0, none⟩ = some (.int .i64 t380) ∧ w'.cell? ⟨gb383, 1, none⟩ = some (.int .i64 t381)) (ds := []) #[false, false, false, false, false, false, false, false, false, false, false, false, false, false, false, false, false, false, false, false, false, false, false, false, false] (by kernel_rfl) rfl rfl ⟨(blk_cell BK382.out 0).trans rfl, (blk_cell BK382.out 1).trans rfl, (blk_cell BK383.out 0).trans rfl, (blk_cell BK383.out 1).trans rfl⟩ (fun hHeld => ?_); refine with_tabW laws_FnIvEnds.tab13 laws_FnIvEnds.bits13 (fun HT_ HW_ => ?_)
            generalize wr.drew = w76 at BK382 BK383 BK393 BK394 HB hHeld ⊢
            refine pure_ (i := 0) (N := some 51) (v := ?_) (a' := ?_) #[true, false, false, false, false, false, false, false, false, false, false, false, false, false, false, false, false, false, false, false, false, false, false, false, false] rfl rfl (any_of HT_.out (by kernel_rfl)) (fun _ _ _ h => h) (Or.inl ⟨by rfl, ?_⟩) ?_ ?_
            rotate_left
            ·intro w'
             go_simp
             with_reducible rfl
            rotate_left
            ·simp only [Act.put, List.setIfInBounds_toArray, List.set_cons_zero, List.set_cons_succ, i64_w, i32_w]
             rfl
            refine pure_ (i := 1) (N := some 52) (v := ?_) (a' := ?_) #[true, true, false, false, false, false, false, false, false, false, false, false, false, false, false, false, false, false, false, false, false, false, false, false, false] rfl rfl (any_of HT_.out (by kernel_rfl)) (fun _ _ _ h => h) (Or.inl ⟨by rfl, ?_⟩) ?_ ?_
            rotate_left
            ·intro w'
             go_simp
             with_reducible rfl
            rotate_left
            ·simp only [Act.put, List.setIfInBounds_toArray, List.set_cons_zero, List.set_cons_succ, i64_w, i32_w]
             rfl
            refine pure_ (i := 3) (N := some 54) (v := ?_) (a' := ?_) #[true, true, false, true, false, false, false, false, false, false, false, false, false, false, false, false, false, false, false, false, false, false, false, false, false] rfl rfl (any_of HT_.out (by kernel_rfl)) (fun _ _ _ h => h) (Or.inl ⟨by rfl, ?_⟩) ?_ ?_
            rotate_left
            ·intro w'
             go_simp
             with_reducible rfl
            rotate_left
            ·simp only [Act.put, List.setIfInBounds_toArray, List.set_cons_zero, List.set_cons_succ, i64_w, i32_w]
             rfl
            refine pure_ (i := 6) (N := some 57) (v := ?_) (a' := ?_) #[true, true, false, true, false, false, true, false, false, false, false, false, false, false, false, false, false, false, false, false, false, false, false, false, false] rfl rfl (any_of HT_.out (by kernel_rfl)) (fun _ _ _ h => h) (Or.inl ⟨by rfl, ?_⟩) ?_ ?_
            rotate_left
            ·intro w'
             go_simp
             with_reducible rfl
            rotate_left
            ·simp only [Act.put, List.setIfInBounds_toArray, List.set_cons_zero, List.set_cons_succ, i64_w, i32_w]
             rfl
            refine pure_ (i := 7) (N := some 58) (v := ?_) (a' := ?_) #[true, true, false, true, false, false, true, true, false, false, false, false, false, false, false, false, false, false, false, false, false, false, false, false, false] rfl rfl (any_of HT_.out (by kernel_rfl)) (fun _ _ _ h => h) (Or.inl ⟨by rfl, ?_⟩) ?_ ?_
            rotate_left
            ·intro w'
             go_simp
             with_reducible rfl
            rotate_left
            ·simp only [Act.put, List.setIfInBounds_toArray, List.set_cons_zero, List.set_cons_succ, i64_w, i32_w]
             rfl
            refine pure_ (i := 10) (N := some 61) (v := ?_) (a' := ?_) #[true, true, false, true, false, false, true, true, false, false, true, false, false, false, false, false, false, false, false, false, false, false, false, false, false] rfl rfl (any_of HT_.out (by kernel_rfl)) (fun _ _ _ h => h) (Or.inl ⟨by rfl, ?_⟩) ?_ ?_
            rotate_left
            ·intro w'
             go_simp
             with_reducible rfl
            rotate_left
            ·simp only [Act.put, List.setIfInBounds_toArray, List.set_cons_zero, List.set_cons_succ, i64_w, i32_w]
             rfl
            refine pure_ (i := 12) (N := some 63) (v := ?_) (a' := ?_) #[true, true, false, true, false, false, true, true, false, false, true, false, true, false, false, false, false, false, false, false, false, false, false, false, false] rfl rfl (any_of HT_.out (by kernel_rfl)) (fun _ _ _ h => h) (Or.inl ⟨by rfl, ?_⟩) ?_ ?_
            rotate_left
            ·intro w'
             go_simp
             with_reducible rfl
            rotate_left
            ·simp only [Act.put, List.setIfInBounds_toArray, List.set_cons_zero, List.set_cons_succ, i64_w, i32_w]
             rfl
            refine pure_ (i := 15) (N := some 66) (v := ?_) (a' := ?_) #[true, true, false, true, false, false, true, true, false, false, true, false, true, false, false, true, false, false, false, false, false, false, false, false, false] rfl rfl (any_of HT_.out (by kernel_rfl)) (fun _ _ _ h => h) (Or.inl ⟨by rfl, ?_⟩) ?_ ?_
            rotate_left
            ·intro w'
             go_simp
             with_reducible rfl
            rotate_left
            ·simp only [Act.put, List.setIfInBounds_toArray, List.set_cons_zero, List.set_cons_succ, i64_w, i32_w]
             rfl
            refine pure_ (i := 16) (N := some 67) (v := ?_) (a' := ?_) #[true, true, false, true, false, false, true, true, false, false, true, false, true, false, false, true, true, false, false, false, false, false, false, false, false] rfl rfl (any_of HT_.out (by kernel_rfl)) (fun _ _ _ h => h) (Or.inl ⟨by rfl, ?_⟩) ?_ ?_
            rotate_left
            ·intro w'
             go_simp
             with_reducible rfl
            rotate_left
            ·simp only [Act.put, List.setIfInBounds_toArray, List.set_cons_zero, List.set_cons_succ, i64_w, i32_w]
             rfl
            refine take_ (i := 2) (N := some 53) (v := ?_) (a' := ?_) #[true, true, true, true, false, false, true, true, false, false, true, false, true, false, false, true, true, false, false, false, false, false, false, false, false] rfl rfl (take_ofW HT_.out HW_.out (by kernel_rfl)) (fun _ _ _ h => h) (Or.inl ⟨by rfl, ?_⟩) hHeld ?_ ?_
            rotate_left
            ·rintro w' ⟨s0, s1, s2, s3⟩
             go_simp
             with_reducible rfl
            rotate_left
            ·simp only [Act.put, List.setIfInBounds_toArray, List.set_cons_zero, List.set_cons_succ, i64_w, i32_w]
             rfl
            refine take_ (i := 4) (N := some 55) (v := ?_) (a' := ?_) #[true, true, true, true, true, false, true, true, false, false, true, false, true, false, false, true, true, false, false, false, false, false, false, false, false] rfl rfl (take_ofW HT_.out HW_.out (by kernel_rfl)) (fun _ _ _ h => h) (Or.inl ⟨by rfl, ?_⟩) hHeld ?_ ?_
            rotate_left
            ·rintro w' ⟨s0, s1, s2, s3⟩
             go_simp
             with_reducible rfl
            rotate_left
            ·simp only [Act.put, List.setIfInBounds_toArray, List.set_cons_zero, List.set_cons_succ, i64_w, i32_w]
             rfl
            refine take_ (i := 11) (N := some 62) (v := ?_) (a' := ?_) #[true, true, true, true, true, false, true, true, false, false, true, true, true, false, false, true, true, false, false, false, false, false, false, false, false] rfl rfl (take_ofW HT_.out HW_.out (by kernel_rfl)) (fun _ _ _ h => h) (Or.inl ⟨by rfl, ?_⟩) hHeld ?_ ?_
            rotate_left
            ·rintro w' ⟨s0, s1, s2, s3⟩
             go_simp
             with_reducible rfl
            rotate_left
            ·simp only [Act.put, List.setIfInBounds_toArray, List.set_cons_zero, List.set_cons_succ, i64_w, i32_w]
             rfl
            refine take_ (i := 13) (N := some 64) (v := ?_) (a' := ?_) #[true, true, true, true, true, false, true, true, false, false, true, true, true, true, false, true, true, false, false, false, false, false, false, false, false] rfl rfl (take_ofW HT_.out HW_.out (by kernel_rfl)) (fun _ _ _ h => h) (Or.inl ⟨by rfl, ?_⟩) hHeld ?_ ?_
            rotate_left
            ·rintro w' ⟨s0, s1, s2, s3⟩
             go_simp
             with_reducible rfl
            rotate_left
            ·simp only [Act.put, List.setIfInBounds_toArray, List.set_cons_zero, List.set_cons_succ, i64_w, i32_w]
             rfl
            refine join_ (σ := Value × Addr × Value × Addr) 6 #[true, true, true, true, true, true, true, true, true, true, true, true, true, true, true, true, true, true, true, false, false, false, false, false, false] (fun s_ => [(56, s_.1), (60, .int .i64 (rd y395 (ji56))), (65, s_.2.2.1), (69, .int .i64 (rd y399 (ji59))), (59, .pointer (some (s_.2.1.add ((ji56)).toNat))), (68, .pointer (some (s_.2.2.2.add ((ji59)).toNat)))]) (fun s_ w' => (w'.cell? ⟨gb382, 0, none⟩ = some (.int .i64 t378) ∧ w'.cell? ⟨gb382, 1, none⟩ = some (.int .i64 t379) ∧ w'.cell? ⟨gb383, 0, none⟩ = some (.int .i64 t380) ∧ w'.cell? ⟨gb383, 1, none⟩ = some (.int .i64 t381)) ∧ (Kd.R (Kd.int .i64) 2 w' w.heap.size (fun k_ => some k_ ≠ (s_.2.2.1 : Value).ownBlock) s_.1 y395) ∧ (Kd.R (Kd.int .i64) 2 w' w.heap.size (fun k_ => some k_ ≠ (s_.1 : Value).ownBlock) s_.2.2.1 y399) ∧ (∃ c_, (s_.1 : Value) = .slice (some s_.2.1) y395.length c_) ∧ (∃ c_, (s_.2.2.1 : Value) = .slice (some s_.2.2.2) y399.length c_) ∧ (w'.heap[gb382]? = some (.cells #[.int .i64 t378, .int .i64 t379] 25 (0, 0))) ∧ (w'.heap[gb383]? = some (.cells #[.int .i64 t380, .int .i64 t381] 25 (0, 0))) ∧ (w'.heap[gb393]? = some (.cells #[.int .i64 t385, .int .i64 t386, .bool t387, .int .i64 t388] 28 (0, 0))) ∧ (w'.heap[gb394]? = some (.cells #[.int .i64 t389, .int .i64 t390, .bool t391, .int .i64 t392] 28 (0, 0))) ∧ (Below w.heap.size w w')) ?_ ?_
            rotate_left
            ·intro hJ5_9_14_18
             refine join_ (σ := Value × Addr × Value × Addr) 7 #[true, true, true, true, true, true, true, true, true, true, true, true, true, true, true, true, true, true, false, false, false, false, false, false, false] (fun s_ => [(56, s_.1), (60, .int .i64 (rd y395 (ji56))), (65, s_.2.2.1), (59, .pointer (some (s_.2.1.add ((ji56)).toNat))), (68, .pointer (some (s_.2.2.2.add ((ji59)).toNat)))]) (fun s_ w' => (w'.cell? ⟨gb382, 0, none⟩ = some (.int .i64 t378) ∧ w'.cell? ⟨gb382, 1, none⟩ = some (.int .i64 t379) ∧ w'.cell? ⟨gb383, 0, none⟩ = some (.int .i64 t380) ∧ w'.cell? ⟨gb383, 1, none⟩ = some (.int .i64 t381)) ∧ (Kd.R (Kd.int .i64) 2 w' w.heap.size (fun k_ => some k_ ≠ (s_.2.2.1 : Value).ownBlock) s_.1 y395) ∧ (Kd.R (Kd.int .i64) 2 w' w.heap.size (fun k_ => some k_ ≠ (s_.1 : Value).ownBlock) s_.2.2.1 y399) ∧ (∃ c_, (s_.1 : Value) = .slice (some s_.2.1) y395.length c_) ∧ (∃ c_, (s_.2.2.1 : Value) = .slice (some s_.2.2.2) y399.length c_) ∧ (w'.heap[gb382]? = some (.cells #[.int .i64 t378, .int .i64 t379] 25 (0, 0))) ∧ (w'.heap[gb383]? = some (.cells #[.int .i64 t380, .int .i64 t381] 25 (0, 0))) ∧ (w'.heap[gb393]? = some (.cells #[.int .i64 t385, .int .i64 t386, .bool t387, .int .i64 t388] 28 (0, 0))) ∧ (w'.heap[gb394]? = some (.cells #[.int .i64 t389, .int .i64 t390, .bool t391, .int .i64 t392] 28 (0, 0))) ∧ (Below w.heap.size w w')) ?_ ?_
             rotate_left
             ·intro hJ5_9_14
              refine join_ (σ := Value × Addr × Value × Addr) 7 #[true, true, true, true, true, true, true, true, true, false, true, true, true, true, true, true, true, true, true, false, false, false, false, false, false] (fun s_ => [(56, s_.1), (65, s_.2.2.1), (69, .int .i64 (rd y399 (ji59))), (59, .pointer (some (s_.2.1.add ((ji56)).toNat))), (68, .pointer (some (s_.2.2.2.add ((ji59)).toNat)))]) (fun s_ w' => (w'.cell? ⟨gb382, 0, none⟩ = some (.int .i64 t378) ∧ w'.cell? ⟨gb382, 1, none⟩ = some (.int .i64 t379) ∧ w'.cell? ⟨gb383, 0, none⟩ = some (.int .i64 t380) ∧ w'.cell? ⟨gb383, 1, none⟩ = some (.int .i64 t381)) ∧ (Kd.R (Kd.int .i64) 2 w' w.heap.size (fun k_ => some k_ ≠ (s_.2.2.1 : Value).ownBlock) s_.1 y395) ∧ (Kd.R (Kd.int .i64) 2 w' w.heap.size (fun k_ => some k_ ≠ (s_.1 : Value).ownBlock) s_.2.2.1 y399) ∧ (∃ c_, (s_.1 : Value) = .slice (some s_.2.1) y395.length c_) ∧ (∃ c_, (s_.2.2.1 : Value) = .slice (some s_.2.2.2) y399.length c_) ∧ (w'.heap[gb382]? = some (.cells #[.int .i64 t378, .int .i64 t379] 25 (0, 0))) ∧ (w'.heap[gb383]? = some (.cells #[.int .i64 t380, .int .i64 t381] 25 (0, 0))) ∧ (w'.heap[gb393]? = some (.cells #[.int .i64 t385, .int .i64 t386, .bool t387, .int .i64 t388] 28 (0, 0))) ∧ (w'.heap[gb394]? = some (.cells #[.int .i64 t389, .int .i64 t390, .bool t391, .int .i64 t392] 28 (0, 0))) ∧ (Below w.heap.size w w')) ?_ ?_
              rotate_left
              ·intro hJ5_14_18
               refine join_ (σ := Value × Addr) 9 #[true, true, true, true, true, true, true, true, true, true, true, true, true, true, false, true, true, false, false, false, false, false, false, false, false] (fun s_ => [(56, s_.1), (60, .int .i64 (rd y395 (ji56))), (59, .pointer (some (s_.2.add ((ji56)).toNat)))]) (fun s_ w' => (w'.cell? ⟨gb382, 0, none⟩ = some (.int .i64 t378) ∧ w'.cell? ⟨gb382, 1, none⟩ = some (.int .i64 t379) ∧ w'.cell? ⟨gb383, 0, none⟩ = some (.int .i64 t380) ∧ w'.cell? ⟨gb383, 1, none⟩ = some (.int .i64 t381)) ∧ (Kd.R (Kd.int .i64) 2 w' w.heap.size (fun _ => True) s_.1 y395) ∧ (∃ c_, (s_.1 : Value) = .slice (some s_.2) y395.length c_) ∧ (w'.heap[gb382]? = some (.cells #[.int .i64 t378, .int .i64 t379] 25 (0, 0))) ∧ (w'.heap[gb383]? = some (.cells #[.int .i64 t380, .int .i64 t381] 25 (0, 0))) ∧ (w'.heap[gb393]? = some (.cells #[.int .i64 t385, .int .i64 t386, .bool t387, .int .i64 t388] 28 (0, 0))) ∧ (w'.heap[gb394]? = some (.cells #[.int .i64 t389, .int .i64 t390, .bool t391, .int .i64 t392] 28 (0, 0))) ∧ (Below w.heap.size w w')) ?_ ?_
               rotate_left
               ·intro hJ5_9
                refine join_ (σ := Value × Addr × Value × Addr) 8 #[true, true, true, true, true, true, true, true, true, false, true, true, true, true, true, true, true, true, false, false, false, false, false, false, false] (fun s_ => [(56, s_.1), (65, s_.2.2.1), (59, .pointer (some (s_.2.1.add ((ji56)).toNat))), (68, .pointer (some (s_.2.2.2.add ((ji59)).toNat)))]) (fun s_ w' => (w'.cell? ⟨gb382, 0, none⟩ = some (.int .i64 t378) ∧ w'.cell? ⟨gb382, 1, none⟩ = some (.int .i64 t379) ∧ w'.cell? ⟨gb383, 0, none⟩ = some (.int .i64 t380) ∧ w'.cell? ⟨gb383, 1, none⟩ = some (.int .i64 t381)) ∧ (Kd.R (Kd.int .i64) 2 w' w.heap.size (fun k_ => some k_ ≠ (s_.2.2.1 : Value).ownBlock) s_.1 y395) ∧ (Kd.R (Kd.int .i64) 2 w' w.heap.size (fun k_ => some k_ ≠ (s_.1 : Value).ownBlock) s_.2.2.1 y399) ∧ (∃ c_, (s_.1 : Value) = .slice (some s_.2.1) y395.length c_) ∧ (∃ c_, (s_.2.2.1 : Value) = .slice (some s_.2.2.2) y399.length c_) ∧ (w'.heap[gb382]? = some (.cells #[.int .i64 t378, .int .i64 t379] 25 (0, 0))) ∧ (w'.heap[gb383]? = some (.cells #[.int .i64 t380, .int .i64 t381] 25 (0, 0))) ∧ (w'.heap[gb393]? = some (.cells #[.int .i64 t385, .int .i64 t386, .bool t387, .int .i64 t388] 28 (0, 0))) ∧ (w'.heap[gb394]? = some (.cells #[.int .i64 t389, .int .i64 t390, .bool t391, .int .i64 t392] 28 (0, 0))) ∧ (Below w.heap.size w w')) ?_ ?_
                rotate_left
                ·intro hJ5_14
                 refine join_ (σ := Value × Addr) 9 #[true, true, true, true, true, false, true, true, false, false, true, true, true, true, true, true, true, true, true, false, false, false, false, false, false] (fun s_ => [(65, s_.1), (69, .int .i64 (rd y399 (ji59))), (68, .pointer (some (s_.2.add ((ji59)).toNat)))]) (fun s_ w' => (w'.cell? ⟨gb382, 0, none⟩ = some (.int .i64 t378) ∧ w'.cell? ⟨gb382, 1, none⟩ = some (.int .i64 t379) ∧ w'.cell? ⟨gb383, 0, none⟩ = some (.int .i64 t380) ∧ w'.cell? ⟨gb383, 1, none⟩ = some (.int .i64 t381)) ∧ (Kd.R (Kd.int .i64) 2 w' w.heap.size (fun _ => True) s_.1 y399) ∧ (∃ c_, (s_.1 : Value) = .slice (some s_.2) y399.length c_) ∧ (w'.heap[gb382]? = some (.cells #[.int .i64 t378, .int .i64 t379] 25 (0, 0))) ∧ (w'.heap[gb383]? = some (.cells #[.int .i64 t380, .int .i64 t381] 25 (0, 0))) ∧ (w'.heap[gb393]? = some (.cells #[.int .i64 t385, .int .i64 t386, .bool t387, .int .i64 t388] 28 (0, 0))) ∧ (w'.heap[gb394]? = some (.cells #[.int .i64 t389, .int .i64 t390, .bool t391, .int .i64 t392] 28 (0, 0))) ∧ (Below w.heap.size w w')) ?_ ?_
                 rotate_left
                 ·intro hJ14_18
                  refine join_ (σ := Value × Addr) 10 #[true, true, true, true, true, true, true, true, true, false, true, true, true, true, false, true, true, false, false, false, false, false, false, false, false] (fun s_ => [(56, s_.1), (59, .pointer (some (s_.2.add ((ji56)).toNat)))]) (fun s_ w' => (w'.cell? ⟨gb382, 0, none⟩ = some (.int .i64 t378) ∧ w'.cell? ⟨gb382, 1, none⟩ = some (.int .i64 t379) ∧ w'.cell? ⟨gb383, 0, none⟩ = some (.int .i64 t380) ∧ w'.cell? ⟨gb383, 1, none⟩ = some (.int .i64 t381)) ∧ (Kd.R (Kd.int .i64) 2 w' w.heap.size (fun _ => True) s_.1 y395) ∧ (∃ c_, (s_.1 : Value) = .slice (some s_.2) y395.length c_) ∧ (w'.heap[gb382]? = some (.cells #[.int .i64 t378, .int .i64 t379] 25 (0, 0))) ∧ (w'.heap[gb383]? = some (.cells #[.int .i64 t380, .int .i64 t381] 25 (0, 0))) ∧ (w'.heap[gb393]? = some (.cells #[.int .i64 t385, .int .i64 t386, .bool t387, .int .i64 t388] 28 (0, 0))) ∧ (w'.heap[gb394]? = some (.cells #[.int .i64 t389, .int .i64 t390, .bool t391, .int .i64 t392] 28 (0, 0))) ∧ (Below w.heap.size w w')) ?_ ?_
                  rotate_left
                  ·intro hJ5
                   refine join_ (σ := Value × Addr) 10 #[true, true, true, true, true, false, true, true, false, false, true, true, true, true, true, true, true, true, false, false, false, false, false, false, false] (fun s_ => [(65, s_.1), (68, .pointer (some (s_.2.add ((ji59)).toNat)))]) (fun s_ w' => (w'.cell? ⟨gb382, 0, none⟩ = some (.int .i64 t378) ∧ w'.cell? ⟨gb382, 1, none⟩ = some (.int .i64 t379) ∧ w'.cell? ⟨gb383, 0, none⟩ = some (.int .i64 t380) ∧ w'.cell? ⟨gb383, 1, none⟩ = some (.int .i64 t381)) ∧ (Kd.R (Kd.int .i64) 2 w' w.heap.size (fun _ => True) s_.1 y399) ∧ (∃ c_, (s_.1 : Value) = .slice (some s_.2) y399.length c_) ∧ (w'.heap[gb382]? = some (.cells #[.int .i64 t378, .int .i64 t379] 25 (0, 0))) ∧ (w'.heap[gb383]? = some (.cells #[.int .i64 t380, .int .i64 t381] 25 (0, 0))) ∧ (w'.heap[gb393]? = some (.cells #[.int .i64 t385, .int .i64 t386, .bool t387, .int .i64 t388] 28 (0, 0))) ∧ (w'.heap[gb394]? = some (.cells #[.int .i64 t389, .int .i64 t390, .bool t391, .int .i64 t392] 28 (0, 0))) ∧ (Below w.heap.size w w')) ?_ ?_
                   rotate_left
                   ·intro hJ14
                    refine two_ (i := 5) (j := 14) (Ni := some 56) (Nj := some 65) #[true, true, true, true, true, true, true, true, false, false, true, true, true, true, false, true, true, false, false, false, false, false, false, false, false] #[true, true, true, true, true, false, true, true, false, false, true, true, true, true, true, true, true, false, false, false, false, false, false, false, false] rfl rfl rfl rfl (two_of HT_.out (by kernel_rfl)) (by decide) (by decide) (fun K hK => ?_) (fun K hK => ?_)
                    ·skip
                     refine Kd.R_lit_step (Kd.int .i64) _ 2 ?hg (N := 56) ?hd (xs := ([t378, t379] : List Int)) (inner := [.int .i64 t378, .int .i64 t379]) (ok := fun _ => True) (okp := fun _ => True) ?hr ?hp (fun _ hk => hk) trivial (Below.refl _ _) (Nat.le_refl _) (by simp) ?_; (case hd => rfl); (case hg => rfl); (case hr => first | (go_simp; done) | (go_simp; rfl)); (case hp => exact (Reps.one (show Kd.M (Kd.int .i64) _ _ _ t378 [.int .i64 t378] from rfl) (Reps.one (show Kd.M (Kd.int .i64) _ _ _ t379 [.int .i64 t379] from rfl) (Reps.none _ _))))
                     intro v396 w77 ho78 hb hg_ hnew_
                     clear hg_ hnew_
                     (first | rw [← Ny395.out] at ho78 | (simp only [Int.reduceToNat] at ho78; rw [← Ny395.out] at ho78))
                     have n0_ := Aside0.mk (Kd.R_lower ho78 (below_size (bw HB)))
                     have n1_ := bb BK382 hb
                     have n2_ := bb BK383 hb
                     have n3_ := bb BK393 hb
                     have n4_ := bb BK394 hb
                     have n5_ := bs HB hb
                     clear BK382
                     clear BK383
                     clear BK393
                     clear BK394
                     clear HB
                     have HO397 := n0_
                     have BK382 := n1_
                     have BK383 := n2_
                     have BK393 := n3_
                     have BK394 := n4_
                     have HB := n5_
                     clear n0_ n1_ n2_ n3_ n4_ n5_
                     clear hb ho78
                     obtain ⟨Ao79, co79, eo79⟩ := Kd.R_slice HO397.out
                     subst eo79
                     obtain ⟨ado79, fo79, _⟩ := Kd.at_int (Kd.R_reads' HO397.out).2.2 0 (by decide) (by rw [Ny395.out]; simp)
                     cases fo79
                     refine hK.out _ _ ⟨(blk_cell BK382.out 0).trans rfl, (blk_cell BK382.out 1).trans rfl, (blk_cell BK383.out 0).trans rfl, (blk_cell BK383.out 1).trans rfl⟩ (fun hHeld => ?_)
                     clear hK K
                     refine norm_ (a' := ?_) ?_ ?_
                     rotate_left
                     ·show Act.put _ (some 56) _ = _
                      simp only [Act.put, List.setIfInBounds_toArray, List.set_cons_zero, List.set_cons_succ, i64_w, i32_w]
                      rfl
                     refine pure_ (i := 8) (N := some 59) (v := ?_) (a' := ?_) #[true, true, true, true, true, true, true, true, true, false, true, true, true, true, false, true, true, false, false, false, false, false, false, false, false] rfl rfl (any_of HT_.out (by kernel_rfl)) (fun _ _ _ h => h) (Or.inl ⟨by rfl, ?_⟩) ?_ ?_
                     rotate_left
                     ·intro w'
                      go_simp
                      with_reducible rfl
                     rotate_left
                     ·simp only [Act.put, List.setIfInBounds_toArray, List.set_cons_zero, List.set_cons_succ, i64_w, i32_w]
                      rfl
                     exact norm_ (by first | (simp only [putAll, Act.put, List.setIfInBounds_toArray, List.set_cons_zero, List.set_cons_succ]; done) | (simp only [putAll, Act.put, List.setIfInBounds_toArray, List.set_cons_zero, List.set_cons_succ]; rfl)) (hJ5 (.slice (some ado79) y395.length co79, ado79) _ ⟨hHeld, (by (with_reducible repeat (first | apply Kd.R_alloc | apply Kd.R_drewN | apply Kd.R_drew)); exact HO397.out), ⟨_, rfl⟩, (bk BK382), (bk BK383), (bk BK393), (bk BK394), (bw HB)⟩)
                    ·skip
                     refine Kd.R_lit_step (Kd.int .i64) _ 2 ?hg (N := 65) ?hd (xs := ([t380, t381] : List Int)) (inner := [.int .i64 t380, .int .i64 t381]) (ok := fun _ => True) (okp := fun _ => True) ?hr ?hp (fun _ hk => hk) trivial (Below.refl _ _) (Nat.le_refl _) (by simp) ?_; (case hd => rfl); (case hg => rfl); (case hr => first | (go_simp; done) | (go_simp; rfl)); (case hp => exact (Reps.one (show Kd.M (Kd.int .i64) _ _ _ t380 [.int .i64 t380] from rfl) (Reps.one (show Kd.M (Kd.int .i64) _ _ _ t381 [.int .i64 t381] from rfl) (Reps.none _ _))))
                     intro v400 w77 ho78 hb hg_ hnew_
                     clear hg_ hnew_
                     (first | rw [← Ny399.out] at ho78 | (simp only [Int.reduceToNat] at ho78; rw [← Ny399.out] at ho78))
                     have n0_ := Aside0.mk (Kd.R_lower ho78 (below_size (bw HB)))
                     have n1_ := bb BK382 hb
                     have n2_ := bb BK383 hb
                     have n3_ := bb BK393 hb
                     have n4_ := bb BK394 hb
                     have n5_ := bs HB hb
                     clear BK382
                     clear BK383
                     clear BK393
                     clear BK394
                     clear HB
                     have HO401 := n0_
                     have BK382 := n1_
                     have BK383 := n2_
                     have BK393 := n3_
                     have BK394 := n4_
                     have HB := n5_
                     clear n0_ n1_ n2_ n3_ n4_ n5_
                     clear hb ho78
                     obtain ⟨Ao79, co79, eo79⟩ := Kd.R_slice HO401.out
                     subst eo79
                     obtain ⟨ado79, fo79, _⟩ := Kd.at_int (Kd.R_reads' HO401.out).2.2 0 (by decide) (by rw [Ny399.out]; simp)
                     cases fo79
                     refine hK.out _ _ ⟨(blk_cell BK382.out 0).trans rfl, (blk_cell BK382.out 1).trans rfl, (blk_cell BK383.out 0).trans rfl, (blk_cell BK383.out 1).trans rfl⟩ (fun hHeld => ?_)
                     clear hK K
                     refine norm_ (a' := ?_) ?_ ?_
                     rotate_left
                     ·show Act.put _ (some 65) _ = _
                      simp only [Act.put, List.setIfInBounds_toArray, List.set_cons_zero, List.set_cons_succ, i64_w, i32_w]
                      rfl
                     refine pure_ (i := 17) (N := some 68) (v := ?_) (a' := ?_) #[true, true, true, true, true, false, true, true, false, false, true, true, true, true, true, true, true, true, false, false, false, false, false, false, false] rfl rfl (any_of HT_.out (by kernel_rfl)) (fun _ _ _ h => h) (Or.inl ⟨by rfl, ?_⟩) ?_ ?_
                     rotate_left
                     ·intro w'
                      go_simp
                      with_reducible rfl
                     rotate_left
                     ·simp only [Act.put, List.setIfInBounds_toArray, List.set_cons_zero, List.set_cons_succ, i64_w, i32_w]
                      rfl
                     exact norm_ (by first | (simp only [putAll, Act.put, List.setIfInBounds_toArray, List.set_cons_zero, List.set_cons_succ]; done) | (simp only [putAll, Act.put, List.setIfInBounds_toArray, List.set_cons_zero, List.set_cons_succ]; rfl)) (hJ14 (.slice (some ado79) y399.length co79, ado79) _ ⟨hHeld, (by (with_reducible repeat (first | apply Kd.R_alloc | apply Kd.R_drewN | apply Kd.R_drew)); exact HO401.out), ⟨_, rfl⟩, (bk BK382), (bk BK383), (bk BK393), (bk BK394), (bw HB)⟩)
                   ·skip
                    rintro ⟨v400, adz_v400⟩ w80 ⟨hS_, h0_, h1_, h2_, h3_, h4_, h5_, h6_⟩
                    have n0_ : Aside0 (Kd.R (Kd.int .i64) 2 w80 w.heap.size (fun _ => True) v400 y399) := ⟨h0_⟩
                    have n1_ : Aside0 (∃ c_, (v400 : Value) = .slice (some adz_v400) y399.length c_) := ⟨h1_⟩
                    have n2_ : Aside0 (w80.heap[gb382]? = some (.cells #[.int .i64 t378, .int .i64 t379] 25 (0, 0))) := ⟨h2_⟩
                    have n3_ : Aside0 (w80.heap[gb383]? = some (.cells #[.int .i64 t380, .int .i64 t381] 25 (0, 0))) := ⟨h3_⟩
                    have n4_ : Aside0 (w80.heap[gb393]? = some (.cells #[.int .i64 t385, .int .i64 t386, .bool t387, .int .i64 t388] 28 (0, 0))) := ⟨h4_⟩
                    have n5_ : Aside0 (w80.heap[gb394]? = some (.cells #[.int .i64 t389, .int .i64 t390, .bool t391, .int .i64 t392] 28 (0, 0))) := ⟨h5_⟩
                    have n6_ : Aside0 (Below w.heap.size w w80) := ⟨h6_⟩
                    clear BK382
                    clear BK383
                    clear BK393
                    clear BK394
                    clear HB
                    clear h0_ h1_ h2_ h3_ h4_ h5_ h6_
                    have HO401 := n0_
                    have HA_HO401 := n1_
                    have BK382 := n2_
                    have BK383 := n3_
                    have BK393 := n4_
                    have BK394 := n5_
                    have HB := n6_
                    clear n0_ n1_ n2_ n3_ n4_ n5_ n6_
                    have hHeld : w80.cell? ⟨gb382, 0, none⟩ = some (.int .i64 t378) ∧ w80.cell? ⟨gb382, 1, none⟩ = some (.int .i64 t379) ∧ w80.cell? ⟨gb383, 0, none⟩ = some (.int .i64 t380) ∧ w80.cell? ⟨gb383, 1, none⟩ = some (.int .i64 t381) := hS_
                    obtain ⟨co81, eo81⟩ := HA_HO401.out
                    clear HA_HO401
                    subst eo81
                    refine norm_ (a' := ?_) ?_ ?_
                    rotate_left
                    ·simp only [putAll, Act.put, List.setIfInBounds_toArray, List.set_cons_zero, List.set_cons_succ]
                     rfl
                    refine two_ (i := 5) (j := 18) (Ni := some 56) (Nj := some 69) #[true, true, true, true, true, true, true, true, false, false, true, true, true, true, true, true, true, true, false, false, false, false, false, false, false] #[true, true, true, true, true, false, true, true, false, false, true, true, true, true, true, true, true, true, true, false, false, false, false, false, false] rfl rfl rfl rfl (two_of HT_.out (by kernel_rfl)) (by decide) (by decide) (fun K hK => ?_) (fun K hK => ?_)
                    ·skip
                     refine Kd.R_lit_step (Kd.int .i64) _ 2 ?hg (N := 56) ?hd (xs := ([t378, t379] : List Int)) (inner := [.int .i64 t378, .int .i64 t379]) (ok := fun _ => True) (okp := fun _ => True) ?hr ?hp (fun _ hk => hk) trivial (Below.refl _ _) (Nat.le_refl _) (by simp) ?_; (case hd => rfl); (case hg => rfl); (case hr => first | (go_simp; done) | (go_simp; rfl)); (case hp => exact (Reps.one (show Kd.M (Kd.int .i64) _ _ _ t378 [.int .i64 t378] from rfl) (Reps.one (show Kd.M (Kd.int .i64) _ _ _ t379 [.int .i64 t379] from rfl) (Reps.none _ _))))
                     intro v396 w82 ho83 hb hg_ hnew_
                     clear hg_ hnew_
                     (first | rw [← Ny395.out] at ho83 | (simp only [Int.reduceToNat] at ho83; rw [← Ny395.out] at ho83))
                     have n0_ := Aside0.mk (Kd.R_elder' (by (with_reducible repeat (first | apply Kd.R_alloc | apply Kd.R_drewN | apply Kd.R_drew)); exact HO401.out) (Kd.R_base ho83) hb)
                     have n1_ := Aside0.mk (Kd.R_lower (Kd.R_new' ho83 (Kd.R_lt (by (with_reducible repeat (first | apply Kd.R_alloc | apply Kd.R_drewN | apply Kd.R_drew)); exact HO401.out))) (below_size (bw HB)))
                     have n2_ := bb BK382 hb
                     have n3_ := bb BK383 hb
                     have n4_ := bb BK393 hb
                     have n5_ := bb BK394 hb
                     have n6_ := bs HB hb
                     clear HO401
                     clear BK382
                     clear BK383
                     clear BK393
                     clear BK394
                     clear HB
                     have HO401 := n0_
                     have HO397 := n1_
                     have BK382 := n2_
                     have BK383 := n3_
                     have BK393 := n4_
                     have BK394 := n5_
                     have HB := n6_
                     clear n0_ n1_ n2_ n3_ n4_ n5_ n6_
                     clear hb ho83
                     obtain ⟨Ao84, co84, eo84⟩ := Kd.R_slice HO397.out
                     subst eo84
                     obtain ⟨ado84, fo84, _⟩ := Kd.at_int (Kd.R_reads' HO397.out).2.2 0 (by decide) (by rw [Ny395.out]; simp)
                     cases fo84
                     refine hK.out _ _ ⟨(blk_cell BK382.out 0).trans rfl, (blk_cell BK382.out 1).trans rfl, (blk_cell BK383.out 0).trans rfl, (blk_cell BK383.out 1).trans rfl⟩ (fun hHeld => ?_)
                     clear hK K
                     refine norm_ (a' := ?_) ?_ ?_
                     rotate_left
                     ·show Act.put _ (some 56) _ = _
                      simp only [Act.put, List.setIfInBounds_toArray, List.set_cons_zero, List.set_cons_succ, i64_w, i32_w]
                      rfl
                     refine pure_ (i := 8) (N := some 59) (v := ?_) (a' := ?_) #[true, true, true, true, true, true, true, true, true, false, true, true, true, true, true, true, true, true, false, false, false, false, false, false, false] rfl rfl (any_of HT_.out (by kernel_rfl)) (fun _ _ _ h => h) (Or.inl ⟨by rfl, ?_⟩) ?_ ?_
                     rotate_left
                     ·intro w'
                      go_simp
                      with_reducible rfl
                     rotate_left
                     ·simp only [Act.put, List.setIfInBounds_toArray, List.set_cons_zero, List.set_cons_succ, i64_w, i32_w]
                      rfl
                     exact norm_ (by first | (simp only [putAll, Act.put, List.setIfInBounds_toArray, List.set_cons_zero, List.set_cons_succ]; done) | (simp only [putAll, Act.put, List.setIfInBounds_toArray, List.set_cons_zero, List.set_cons_succ]; rfl)) (hJ5_14 (.slice (some ado84) y395.length co84, ado84, .slice (some adz_v400) y399.length co81, adz_v400) _ ⟨hHeld, (by (with_reducible repeat (first | apply Kd.R_alloc | apply Kd.R_drewN | apply Kd.R_drew)); exact Kd.R_mono HO397.out (fun _ hk => hk.2)), (by (with_reducible repeat (first | apply Kd.R_alloc | apply Kd.R_drewN | apply Kd.R_drew)); exact Kd.R_mono HO401.out (fun _ hk => hk.2)), ⟨_, rfl⟩, ⟨_, rfl⟩, (bk BK382), (bk BK383), (bk BK393), (bk BK394), (bw HB)⟩)
                    ·skip
                     (have p402 : 0 ≤ ((ji59) : Int) := of_decide_eq_true (by first | (with_reducible assumption) | assumption); have q402 : (ji59) < (y399.length : Int) := of_decide_eq_true (by first | (with_reducible assumption) | assumption); obtain ⟨ad402, e402, hx402_0⟩ := Kd.at_int (Kd.R_reads' HO401.out).2.2 (ji59) p402 q402; obtain rfl : adz_v400 = ad402 := (by injection e402))
                     refine value_ (w1 := ?_) (v := ?_) (by rfl) rfl ?_ ?_
                     rotate_left 2
                     ·go_simp
                      constructor
                      ·rfl
                      ·rfl
                     clear hx402_0
                     refine hK.out _ _ ⟨(blk_cell BK382.out 0).trans rfl, (blk_cell BK382.out 1).trans rfl, (blk_cell BK383.out 0).trans rfl, (blk_cell BK383.out 1).trans rfl⟩ (fun hHeld => ?_)
                     clear hK K
                     refine norm_ (a' := ?_) ?_ ?_
                     rotate_left
                     ·show Act.put _ (some 69) _ = _
                      simp only [Act.put, List.setIfInBounds_toArray, List.set_cons_zero, List.set_cons_succ, i64_w, i32_w]
                      rfl
                     exact norm_ (by first | (simp only [putAll, Act.put, List.setIfInBounds_toArray, List.set_cons_zero, List.set_cons_succ]; done) | (simp only [putAll, Act.put, List.setIfInBounds_toArray, List.set_cons_zero, List.set_cons_succ]; rfl)) (hJ14_18 (.slice (some adz_v400) y399.length co81, adz_v400) _ ⟨hHeld, (by (with_reducible repeat (first | apply Kd.R_alloc | apply Kd.R_drewN | apply Kd.R_drew)); exact HO401.out), ⟨_, rfl⟩, (bk BK382), (bk BK383), (bk BK393), (bk BK394), (bw HB)⟩)
                  ·skip
                   rintro ⟨v396, adz_v396⟩ w80 ⟨hS_, h0_, h1_, h2_, h3_, h4_, h5_, h6_⟩
                   have n0_ : Aside0 (Kd.R (Kd.int .i64) 2 w80 w.heap.size (fun _ => True) v396 y395) := ⟨h0_⟩
                   have n1_ : Aside0 (∃ c_, (v396 : Value) = .slice (some adz_v396) y395.length c_) := ⟨h1_⟩
                   have n2_ : Aside0 (w80.heap[gb382]? = some (.cells #[.int .i64 t378, .int .i64 t379] 25 (0, 0))) := ⟨h2_⟩
                   have n3_ : Aside0 (w80.heap[gb383]? = some (.cells #[.int .i64 t380, .int .i64 t381] 25 (0, 0))) := ⟨h3_⟩
                   have n4_ : Aside0 (w80.heap[gb393]? = some (.cells #[.int .i64 t385, .int .i64 t386, .bool t387, .int .i64 t388] 28 (0, 0))) := ⟨h4_⟩
                   have n5_ : Aside0 (w80.heap[gb394]? = some (.cells #[.int .i64 t389, .int .i64 t390, .bool t391, .int .i64 t392] 28 (0, 0))) := ⟨h5_⟩
                   have n6_ : Aside0 (Below w.heap.size w w80) := ⟨h6_⟩
                   clear BK382
                   clear BK383
                   clear BK393
                   clear BK394
                   clear HB
                   clear h0_ h1_ h2_ h3_ h4_ h5_ h6_
                   have HO397 := n0_
                   have HA_HO397 := n1_
                   have BK382 := n2_
                   have BK383 := n3_
                   have BK393 := n4_
                   have BK394 := n5_
                   have HB := n6_
                   clear n0_ n1_ n2_ n3_ n4_ n5_ n6_
                   have hHeld : w80.cell? ⟨gb382, 0, none⟩ = some (.int .i64 t378) ∧ w80.cell? ⟨gb382, 1, none⟩ = some (.int .i64 t379) ∧ w80.cell? ⟨gb383, 0, none⟩ = some (.int .i64 t380) ∧ w80.cell? ⟨gb383, 1, none⟩ = some (.int .i64 t381) := hS_
                   obtain ⟨co81, eo81⟩ := HA_HO397.out
                   clear HA_HO397
                   subst eo81
                   refine norm_ (a' := ?_) ?_ ?_
                   rotate_left
                   ·simp only [putAll, Act.put, List.setIfInBounds_toArray, List.set_cons_zero, List.set_cons_succ]
                    rfl
                   refine two_ (i := 9) (j := 14) (Ni := some 60) (Nj := some 65) #[true, true, true, true, true, true, true, true, true, true, true, true, true, true, false, true, true, false, false, false, false, false, false, false, false] #[true, true, true, true, true, true, true, true, true, false, true, true, true, true, true, true, true, false, false, false, false, false, false, false, false] rfl rfl rfl rfl (two_of HT_.out (by kernel_rfl)) (by decide) (by decide) (fun K hK => ?_) (fun K hK => ?_)
                   ·skip
                    (have p398 : 0 ≤ ((ji56) : Int) := of_decide_eq_true (by first | (with_reducible assumption) | assumption); have q398 : (ji56) < (y395.length : Int) := of_decide_eq_true (by first | (with_reducible assumption) | assumption); obtain ⟨ad398, e398, hx398_0⟩ := Kd.at_int (Kd.R_reads' HO397.out).2.2 (ji56) p398 q398; obtain rfl : adz_v396 = ad398 := (by injection e398))
                    refine value_ (w1 := ?_) (v := ?_) (by rfl) rfl ?_ ?_
                    rotate_left 2
                    ·go_simp
                     constructor
                     ·rfl
                     ·rfl
                    clear hx398_0
                    refine hK.out _ _ ⟨(blk_cell BK382.out 0).trans rfl, (blk_cell BK382.out 1).trans rfl, (blk_cell BK383.out 0).trans rfl, (blk_cell BK383.out 1).trans rfl⟩ (fun hHeld => ?_)
                    clear hK K
                    refine norm_ (a' := ?_) ?_ ?_
                    rotate_left
                    ·show Act.put _ (some 60) _ = _
                     simp only [Act.put, List.setIfInBounds_toArray, List.set_cons_zero, List.set_cons_succ, i64_w, i32_w]
                     rfl
                    exact norm_ (by first | (simp only [putAll, Act.put, List.setIfInBounds_toArray, List.set_cons_zero, List.set_cons_succ]; done) | (simp only [putAll, Act.put, List.setIfInBounds_toArray, List.set_cons_zero, List.set_cons_succ]; rfl)) (hJ5_9 (.slice (some adz_v396) y395.length co81, adz_v396) _ ⟨hHeld, (by (with_reducible repeat (first | apply Kd.R_alloc | apply Kd.R_drewN | apply Kd.R_drew)); exact HO397.out), ⟨_, rfl⟩, (bk BK382), (bk BK383), (bk BK393), (bk BK394), (bw HB)⟩)
                   ·skip
                    refine Kd.R_lit_step (Kd.int .i64) _ 2 ?hg (N := 65) ?hd (xs := ([t380, t381] : List Int)) (inner := [.int .i64 t380, .int .i64 t381]) (ok := fun _ => True) (okp := fun _ => True) ?hr ?hp (fun _ hk => hk) trivial (Below.refl _ _) (Nat.le_refl _) (by simp) ?_; (case hd => rfl); (case hg => rfl); (case hr => first | (go_simp; done) | (go_simp; rfl)); (case hp => exact (Reps.one (show Kd.M (Kd.int .i64) _ _ _ t380 [.int .i64 t380] from rfl) (Reps.one (show Kd.M (Kd.int .i64) _ _ _ t381 [.int .i64 t381] from rfl) (Reps.none _ _))))
                    intro v400 w82 ho83 hb hg_ hnew_
                    clear hg_ hnew_
                    (first | rw [← Ny399.out] at ho83 | (simp only [Int.reduceToNat] at ho83; rw [← Ny399.out] at ho83))
                    have n0_ := Aside0.mk (Kd.R_elder' (by (with_reducible repeat (first | apply Kd.R_alloc | apply Kd.R_drewN | apply Kd.R_drew)); exact HO397.out) (Kd.R_base ho83) hb)
                    have n1_ := Aside0.mk (Kd.R_lower (Kd.R_new' ho83 (Kd.R_lt (by (with_reducible repeat (first | apply Kd.R_alloc | apply Kd.R_drewN | apply Kd.R_drew)); exact HO397.out))) (below_size (bw HB)))
                    have n2_ := bb BK382 hb
                    have n3_ := bb BK383 hb
                    have n4_ := bb BK393 hb
                    have n5_ := bb BK394 hb
                    have n6_ := bs HB hb
                    clear HO397
                    clear BK382
                    clear BK383
                    clear BK393
                    clear BK394
                    clear HB
                    have HO397 := n0_
                    have HO401 := n1_
                    have BK382 := n2_
                    have BK383 := n3_
                    have BK393 := n4_
                    have BK394 := n5_
                    have HB := n6_
                    clear n0_ n1_ n2_ n3_ n4_ n5_ n6_
                    clear hb ho83
                    obtain ⟨Ao84, co84, eo84⟩ := Kd.R_slice HO401.out
                    subst eo84
                    obtain ⟨ado84, fo84, _⟩ := Kd.at_int (Kd.R_reads' HO401.out).2.2 0 (by decide) (by rw [Ny399.out]; simp)
                    cases fo84
                    refine hK.out _ _ ⟨(blk_cell BK382.out 0).trans rfl, (blk_cell BK382.out 1).trans rfl, (blk_cell BK383.out 0).trans rfl, (blk_cell BK383.out 1).trans rfl⟩ (fun hHeld => ?_)
                    clear hK K
                    refine norm_ (a' := ?_) ?_ ?_
                    rotate_left
                    ·show Act.put _ (some 65) _ = _
                     simp only [Act.put, List.setIfInBounds_toArray, List.set_cons_zero, List.set_cons_succ, i64_w, i32_w]
                     rfl
                    refine pure_ (i := 17) (N := some 68) (v := ?_) (a' := ?_) #[true, true, true, true, true, true, true, true, true, false, true, true, true, true, true, true, true, true, false, false, false, false, false, false, false] rfl rfl (any_of HT_.out (by kernel_rfl)) (fun _ _ _ h => h) (Or.inl ⟨by rfl, ?_⟩) ?_ ?_
                    rotate_left
                    ·intro w'
                     go_simp
                     with_reducible rfl
                    rotate_left
                    ·simp only [Act.put, List.setIfInBounds_toArray, List.set_cons_zero, List.set_cons_succ, i64_w, i32_w]
                     rfl
                    exact norm_ (by first | (simp only [putAll, Act.put, List.setIfInBounds_toArray, List.set_cons_zero, List.set_cons_succ]; done) | (simp only [putAll, Act.put, List.setIfInBounds_toArray, List.set_cons_zero, List.set_cons_succ]; rfl)) (hJ5_14 (.slice (some adz_v396) y395.length co81, adz_v396, .slice (some ado84) y399.length co84, ado84) _ ⟨hHeld, (by (with_reducible repeat (first | apply Kd.R_alloc | apply Kd.R_drewN | apply Kd.R_drew)); exact Kd.R_mono HO397.out (fun _ hk => hk.2)), (by (with_reducible repeat (first | apply Kd.R_alloc | apply Kd.R_drewN | apply Kd.R_drew)); exact Kd.R_mono HO401.out (fun _ hk => hk.2)), ⟨_, rfl⟩, ⟨_, rfl⟩, (bk BK382), (bk BK383), (bk BK393), (bk BK394), (bw HB)⟩)
                 ·skip
                  rintro ⟨v400, adz_v400⟩ w80 ⟨hS_, h0_, h1_, h2_, h3_, h4_, h5_, h6_⟩
                  have n0_ : Aside0 (Kd.R (Kd.int .i64) 2 w80 w.heap.size (fun _ => True) v400 y399) := ⟨h0_⟩
                  have n1_ : Aside0 (∃ c_, (v400 : Value) = .slice (some adz_v400) y399.length c_) := ⟨h1_⟩
                  have n2_ : Aside0 (w80.heap[gb382]? = some (.cells #[.int .i64 t378, .int .i64 t379] 25 (0, 0))) := ⟨h2_⟩
                  have n3_ : Aside0 (w80.heap[gb383]? = some (.cells #[.int .i64 t380, .int .i64 t381] 25 (0, 0))) := ⟨h3_⟩
                  have n4_ : Aside0 (w80.heap[gb393]? = some (.cells #[.int .i64 t385, .int .i64 t386, .bool t387, .int .i64 t388] 28 (0, 0))) := ⟨h4_⟩
                  have n5_ : Aside0 (w80.heap[gb394]? = some (.cells #[.int .i64 t389, .int .i64 t390, .bool t391, .int .i64 t392] 28 (0, 0))) := ⟨h5_⟩
                  have n6_ : Aside0 (Below w.heap.size w w80) := ⟨h6_⟩
                  clear BK382
                  clear BK383
                  clear BK393
                  clear BK394
                  clear HB
                  clear h0_ h1_ h2_ h3_ h4_ h5_ h6_
                  have HO401 := n0_
                  have HA_HO401 := n1_
                  have BK382 := n2_
                  have BK383 := n3_
                  have BK393 := n4_
                  have BK394 := n5_
                  have HB := n6_
                  clear n0_ n1_ n2_ n3_ n4_ n5_ n6_
                  have hHeld : w80.cell? ⟨gb382, 0, none⟩ = some (.int .i64 t378) ∧ w80.cell? ⟨gb382, 1, none⟩ = some (.int .i64 t379) ∧ w80.cell? ⟨gb383, 0, none⟩ = some (.int .i64 t380) ∧ w80.cell? ⟨gb383, 1, none⟩ = some (.int .i64 t381) := hS_
                  obtain ⟨co81, eo81⟩ := HA_HO401.out
                  clear HA_HO401
                  subst eo81
                  refine norm_ (a' := ?_) ?_ ?_
                  rotate_left
                  ·simp only [putAll, Act.put, List.setIfInBounds_toArray, List.set_cons_zero, List.set_cons_succ]
                   rfl
                  refine one_ (i := 5) (N := some 56) #[true, true, true, true, true, true, true, true, false, false, true, true, true, true, true, true, true, true, true, false, false, false, false, false, false] rfl rfl (one_of HT_.out (by kernel_rfl)) (by decide) (fun K hK => ?_)
                  refine Kd.R_lit_step (Kd.int .i64) _ 2 ?hg (N := 56) ?hd (xs := ([t378, t379] : List Int)) (inner := [.int .i64 t378, .int .i64 t379]) (ok := fun _ => True) (okp := fun _ => True) ?hr ?hp (fun _ hk => hk) trivial (Below.refl _ _) (Nat.le_refl _) (by simp) ?_; (case hd => rfl); (case hg => rfl); (case hr => first | (go_simp; done) | (go_simp; rfl)); (case hp => exact (Reps.one (show Kd.M (Kd.int .i64) _ _ _ t378 [.int .i64 t378] from rfl) (Reps.one (show Kd.M (Kd.int .i64) _ _ _ t379 [.int .i64 t379] from rfl) (Reps.none _ _))))
                  intro v396 w82 ho83 hb hg_ hnew_
                  clear hg_ hnew_
                  (first | rw [← Ny395.out] at ho83 | (simp only [Int.reduceToNat] at ho83; rw [← Ny395.out] at ho83))
                  have n0_ := Aside0.mk (Kd.R_elder' (by (with_reducible repeat (first | apply Kd.R_alloc | apply Kd.R_drewN | apply Kd.R_drew)); exact HO401.out) (Kd.R_base ho83) hb)
                  have n1_ := Aside0.mk (Kd.R_lower (Kd.R_new' ho83 (Kd.R_lt (by (with_reducible repeat (first | apply Kd.R_alloc | apply Kd.R_drewN | apply Kd.R_drew)); exact HO401.out))) (below_size (bw HB)))
                  have n2_ := bb BK382 hb
                  have n3_ := bb BK383 hb
                  have n4_ := bb BK393 hb
                  have n5_ := bb BK394 hb
                  have n6_ := bs HB hb
                  clear HO401
                  clear BK382
                  clear BK383
                  clear BK393
                  clear BK394
                  clear HB
                  have HO401 := n0_
                  have HO397 := n1_
                  have BK382 := n2_
                  have BK383 := n3_
                  have BK393 := n4_
                  have BK394 := n5_
                  have HB := n6_
                  clear n0_ n1_ n2_ n3_ n4_ n5_ n6_
                  clear hb ho83
                  obtain ⟨Ao84, co84, eo84⟩ := Kd.R_slice HO397.out
                  subst eo84
                  obtain ⟨ado84, fo84, _⟩ := Kd.at_int (Kd.R_reads' HO397.out).2.2 0 (by decide) (by rw [Ny395.out]; simp)
                  cases fo84
                  refine hK.out _ _ ⟨(blk_cell BK382.out 0).trans rfl, (blk_cell BK382.out 1).trans rfl, (blk_cell BK383.out 0).trans rfl, (blk_cell BK383.out 1).trans rfl⟩ (fun hHeld => ?_)
                  clear hK K
                  refine norm_ (a' := ?_) ?_ ?_
                  rotate_left
                  ·show Act.put _ (some 56) _ = _
                   simp only [Act.put, List.setIfInBounds_toArray, List.set_cons_zero, List.set_cons_succ, i64_w, i32_w]
                   rfl
                  refine pure_ (i := 8) (N := some 59) (v := ?_) (a' := ?_) #[true, true, true, true, true, true, true, true, true, false, true, true, true, true, true, true, true, true, true, false, false, false, false, false, false] rfl rfl (any_of HT_.out (by kernel_rfl)) (fun _ _ _ h => h) (Or.inl ⟨by rfl, ?_⟩) ?_ ?_
                  rotate_left
                  ·intro w'
                   go_simp
                   with_reducible rfl
                  rotate_left
                  ·simp only [Act.put, List.setIfInBounds_toArray, List.set_cons_zero, List.set_cons_succ, i64_w, i32_w]
                   rfl
                  exact norm_ (by first | (simp only [putAll, Act.put, List.setIfInBounds_toArray, List.set_cons_zero, List.set_cons_succ]; done) | (simp only [putAll, Act.put, List.setIfInBounds_toArray, List.set_cons_zero, List.set_cons_succ]; rfl)) (hJ5_14_18 (.slice (some ado84) y395.length co84, ado84, .slice (some adz_v400) y399.length co81, adz_v400) _ ⟨hHeld, (by (with_reducible repeat (first | apply Kd.R_alloc | apply Kd.R_drewN | apply Kd.R_drew)); exact Kd.R_mono HO397.out (fun _ hk => hk.2)), (by (with_reducible repeat (first | apply Kd.R_alloc | apply Kd.R_drewN | apply Kd.R_drew)); exact Kd.R_mono HO401.out (fun _ hk => hk.2)), ⟨_, rfl⟩, ⟨_, rfl⟩, (bk BK382), (bk BK383), (bk BK393), (bk BK394), (bw HB)⟩)
                ·skip
                 rintro ⟨v396, adz_v396, v400, adz_v400⟩ w83 ⟨hS_, h0_, h1_, h2_, h3_, h4_, h5_, h6_, h7_, h8_⟩
                 have n0_ : Aside0 (Kd.R (Kd.int .i64) 2 w83 w.heap.size (fun k_ => some k_ ≠ (v400 : Value).ownBlock) v396 y395) := ⟨h0_⟩
                 have n1_ : Aside0 (Kd.R (Kd.int .i64) 2 w83 w.heap.size (fun k_ => some k_ ≠ (v396 : Value).ownBlock) v400 y399) := ⟨h1_⟩
                 have n2_ : Aside0 (∃ c_, (v396 : Value) = .slice (some adz_v396) y395.length c_) := ⟨h2_⟩
                 have n3_ : Aside0 (∃ c_, (v400 : Value) = .slice (some adz_v400) y399.length c_) := ⟨h3_⟩
                 have n4_ : Aside0 (w83.heap[gb382]? = some (.cells #[.int .i64 t378, .int .i64 t379] 25 (0, 0))) := ⟨h4_⟩
                 have n5_ : Aside0 (w83.heap[gb383]? = some (.cells #[.int .i64 t380, .int .i64 t381] 25 (0, 0))) := ⟨h5_⟩
                 have n6_ : Aside0 (w83.heap[gb393]? = some (.cells #[.int .i64 t385, .int .i64 t386, .bool t387, .int .i64 t388] 28 (0, 0))) := ⟨h6_⟩
                 have n7_ : Aside0 (w83.heap[gb394]? = some (.cells #[.int .i64 t389, .int .i64 t390, .bool t391, .int .i64 t392] 28 (0, 0))) := ⟨h7_⟩
                 have n8_ : Aside0 (Below w.heap.size w w83) := ⟨h8_⟩
                 clear BK382
                 clear BK383
                 clear BK393
                 clear BK394
                 clear HB
                 clear h0_ h1_ h2_ h3_ h4_ h5_ h6_ h7_ h8_
                 have HO397 := n0_
                 have HO401 := n1_
                 have HA_HO397 := n2_
                 have HA_HO401 := n3_
                 have BK382 := n4_
                 have BK383 := n5_
                 have BK393 := n6_
                 have BK394 := n7_
                 have HB := n8_
                 clear n0_ n1_ n2_ n3_ n4_ n5_ n6_ n7_ n8_
                 have hHeld : w83.cell? ⟨gb382, 0, none⟩ = some (.int .i64 t378) ∧ w83.cell? ⟨gb382, 1, none⟩ = some (.int .i64 t379) ∧ w83.cell? ⟨gb383, 0, none⟩ = some (.int .i64 t380) ∧ w83.cell? ⟨gb383, 1, none⟩ = some (.int .i64 t381) := hS_
                 obtain ⟨co84, eo84⟩ := HA_HO397.out
                 clear HA_HO397
                 subst eo84
                 obtain ⟨co85, eo85⟩ := HA_HO401.out
                 clear HA_HO401
                 subst eo85
                 refine norm_ (a' := ?_) ?_ ?_
                 rotate_left
                 ·simp only [putAll, Act.put, List.setIfInBounds_toArray, List.set_cons_zero, List.set_cons_succ]
                  rfl
                 refine two_ (i := 9) (j := 18) (Ni := some 60) (Nj := some 69) #[true, true, true, true, true, true, true, true, true, true, true, true, true, true, true, true, true, true, false, false, false, false, false, false, false] #[true, true, true, true, true, true, true, true, true, false, true, true, true, true, true, true, true, true, true, false, false, false, false, false, false] rfl rfl rfl rfl (two_of HT_.out (by kernel_rfl)) (by decide) (by decide) (fun K hK => ?_) (fun K hK => ?_)
                 ·skip
                  (have p398 : 0 ≤ ((ji56) : Int) := of_decide_eq_true (by first | (with_reducible assumption) | assumption); have q398 : (ji56) < (y395.length : Int) := of_decide_eq_true (by first | (with_reducible assumption) | assumption); obtain ⟨ad398, e398, hx398_0⟩ := Kd.at_int (Kd.R_reads' HO397.out).2.2 (ji56) p398 q398; obtain rfl : adz_v396 = ad398 := (by injection e398))
                  refine value_ (w1 := ?_) (v := ?_) (by rfl) rfl ?_ ?_
                  rotate_left 2
                  ·go_simp
                   constructor
                   ·rfl
                   ·rfl
                  clear hx398_0
                  refine hK.out _ _ ⟨(blk_cell BK382.out 0).trans rfl, (blk_cell BK382.out 1).trans rfl, (blk_cell BK383.out 0).trans rfl, (blk_cell BK383.out 1).trans rfl⟩ (fun hHeld => ?_)
                  clear hK K
                  refine norm_ (a' := ?_) ?_ ?_
                  rotate_left
                  ·show Act.put _ (some 60) _ = _
                   simp only [Act.put, List.setIfInBounds_toArray, List.set_cons_zero, List.set_cons_succ, i64_w, i32_w]
                   rfl
                  exact norm_ (by first | (simp only [putAll, Act.put, List.setIfInBounds_toArray, List.set_cons_zero, List.set_cons_succ]; done) | (simp only [putAll, Act.put, List.setIfInBounds_toArray, List.set_cons_zero, List.set_cons_succ]; rfl)) (hJ5_9_14 (.slice (some adz_v396) y395.length co84, adz_v396, .slice (some adz_v400) y399.length co85, adz_v400) _ ⟨hHeld, (by (with_reducible repeat (first | apply Kd.R_alloc | apply Kd.R_drewN | apply Kd.R_drew)); exact HO397.out), (by (with_reducible repeat (first | apply Kd.R_alloc | apply Kd.R_drewN | apply Kd.R_drew)); exact HO401.out), ⟨_, rfl⟩, ⟨_, rfl⟩, (bk BK382), (bk BK383), (bk BK393), (bk BK394), (bw HB)⟩)
                 ·skip
                  (have p402 : 0 ≤ ((ji59) : Int) := of_decide_eq_true (by first | (with_reducible assumption) | assumption); have q402 : (ji59) < (y399.length : Int) := of_decide_eq_true (by first | (with_reducible assumption) | assumption); obtain ⟨ad402, e402, hx402_0⟩ := Kd.at_int (Kd.R_reads' HO401.out).2.2 (ji59) p402 q402; obtain rfl : adz_v400 = ad402 := (by injection e402))
                  refine value_ (w1 := ?_) (v := ?_) (by rfl) rfl ?_ ?_
                  rotate_left 2
                  ·go_simp
                   constructor
                   ·rfl
                   ·rfl
                  clear hx402_0
                  refine hK.out _ _ ⟨(blk_cell BK382.out 0).trans rfl, (blk_cell BK382.out 1).trans rfl, (blk_cell BK383.out 0).trans rfl, (blk_cell BK383.out 1).trans rfl⟩ (fun hHeld => ?_)
                  clear hK K
                  refine norm_ (a' := ?_) ?_ ?_
                  rotate_left
                  ·show Act.put _ (some 69) _ = _
                   simp only [Act.put, List.setIfInBounds_toArray, List.set_cons_zero, List.set_cons_succ, i64_w, i32_w]
                   rfl
                  exact norm_ (by first | (simp only [putAll, Act.put, List.setIfInBounds_toArray, List.set_cons_zero, List.set_cons_succ]; done) | (simp only [putAll, Act.put, List.setIfInBounds_toArray, List.set_cons_zero, List.set_cons_succ]; rfl)) (hJ5_14_18 (.slice (some adz_v396) y395.length co84, adz_v396, .slice (some adz_v400) y399.length co85, adz_v400) _ ⟨hHeld, (by (with_reducible repeat (first | apply Kd.R_alloc | apply Kd.R_drewN | apply Kd.R_drew)); exact HO397.out), (by (with_reducible repeat (first | apply Kd.R_alloc | apply Kd.R_drewN | apply Kd.R_drew)); exact HO401.out), ⟨_, rfl⟩, ⟨_, rfl⟩, (bk BK382), (bk BK383), (bk BK393), (bk BK394), (bw HB)⟩)
               ·skip
                rintro ⟨v396, adz_v396⟩ w80 ⟨hS_, h0_, h1_, h2_, h3_, h4_, h5_, h6_⟩
                have n0_ : Aside0 (Kd.R (Kd.int .i64) 2 w80 w.heap.size (fun _ => True) v396 y395) := ⟨h0_⟩
                have n1_ : Aside0 (∃ c_, (v396 : Value) = .slice (some adz_v396) y395.length c_) := ⟨h1_⟩
                have n2_ : Aside0 (w80.heap[gb382]? = some (.cells #[.int .i64 t378, .int .i64 t379] 25 (0, 0))) := ⟨h2_⟩
                have n3_ : Aside0 (w80.heap[gb383]? = some (.cells #[.int .i64 t380, .int .i64 t381] 25 (0, 0))) := ⟨h3_⟩
                have n4_ : Aside0 (w80.heap[gb393]? = some (.cells #[.int .i64 t385, .int .i64 t386, .bool t387, .int .i64 t388] 28 (0, 0))) := ⟨h4_⟩
                have n5_ : Aside0 (w80.heap[gb394]? = some (.cells #[.int .i64 t389, .int .i64 t390, .bool t391, .int .i64 t392] 28 (0, 0))) := ⟨h5_⟩
                have n6_ : Aside0 (Below w.heap.size w w80) := ⟨h6_⟩
                clear BK382
                clear BK383
                clear BK393
                clear BK394
                clear HB
                clear h0_ h1_ h2_ h3_ h4_ h5_ h6_
                have HO397 := n0_
                have HA_HO397 := n1_
                have BK382 := n2_
                have BK383 := n3_
                have BK393 := n4_
                have BK394 := n5_
                have HB := n6_
                clear n0_ n1_ n2_ n3_ n4_ n5_ n6_
                have hHeld : w80.cell? ⟨gb382, 0, none⟩ = some (.int .i64 t378) ∧ w80.cell? ⟨gb382, 1, none⟩ = some (.int .i64 t379) ∧ w80.cell? ⟨gb383, 0, none⟩ = some (.int .i64 t380) ∧ w80.cell? ⟨gb383, 1, none⟩ = some (.int .i64 t381) := hS_
                obtain ⟨co81, eo81⟩ := HA_HO397.out
                clear HA_HO397
                subst eo81
                refine norm_ (a' := ?_) ?_ ?_
                rotate_left
                ·simp only [putAll, Act.put, List.setIfInBounds_toArray, List.set_cons_zero, List.set_cons_succ]
                 rfl
                refine one_ (i := 14) (N := some 65) #[true, true, true, true, true, true, true, true, true, true, true, true, true, true, true, true, true, false, false, false, false, false, false, false, false] rfl rfl (one_of HT_.out (by kernel_rfl)) (by decide) (fun K hK => ?_)
                refine Kd.R_lit_step (Kd.int .i64) _ 2 ?hg (N := 65) ?hd (xs := ([t380, t381] : List Int)) (inner := [.int .i64 t380, .int .i64 t381]) (ok := fun _ => True) (okp := fun _ => True) ?hr ?hp (fun _ hk => hk) trivial (Below.refl _ _) (Nat.le_refl _) (by simp) ?_; (case hd => rfl); (case hg => rfl); (case hr => first | (go_simp; done) | (go_simp; rfl)); (case hp => exact (Reps.one (show Kd.M (Kd.int .i64) _ _ _ t380 [.int .i64 t380] from rfl) (Reps.one (show Kd.M (Kd.int .i64) _ _ _ t381 [.int .i64 t381] from rfl) (Reps.none _ _))))
                intro v400 w82 ho83 hb hg_ hnew_
                clear hg_ hnew_
                (first | rw [← Ny399.out] at ho83 | (simp only [Int.reduceToNat] at ho83; rw [← Ny399.out] at ho83))
                have n0_ := Aside0.mk (Kd.R_elder' (by (with_reducible repeat (first | apply Kd.R_alloc | apply Kd.R_drewN | apply Kd.R_drew)); exact HO397.out) (Kd.R_base ho83) hb)
                have n1_ := Aside0.mk (Kd.R_lower (Kd.R_new' ho83 (Kd.R_lt (by (with_reducible repeat (first | apply Kd.R_alloc | apply Kd.R_drewN | apply Kd.R_drew)); exact HO397.out))) (below_size (bw HB)))
                have n2_ := bb BK382 hb
                have n3_ := bb BK383 hb
                have n4_ := bb BK393 hb
                have n5_ := bb BK394 hb
                have n6_ := bs HB hb
                clear HO397
                clear BK382
                clear BK383
                clear BK393
                clear BK394
                clear HB
                have HO397 := n0_
                have HO401 := n1_
                have BK382 := n2_
                have BK383 := n3_
                have BK393 := n4_
                have BK394 := n5_
                have HB := n6_
                clear n0_ n1_ n2_ n3_ n4_ n5_ n6_
                clear hb ho83
                obtain ⟨Ao84, co84, eo84⟩ := Kd.R_slice HO401.out
                subst eo84
                obtain ⟨ado84, fo84, _⟩ := Kd.at_int (Kd.R_reads' HO401.out).2.2 0 (by decide) (by rw [Ny399.out]; simp)
                cases fo84
                refine hK.out _ _ ⟨(blk_cell BK382.out 0).trans rfl, (blk_cell BK382.out 1).trans rfl, (blk_cell BK383.out 0).trans rfl, (blk_cell BK383.out 1).trans rfl⟩ (fun hHeld => ?_)
                clear hK K
                refine norm_ (a' := ?_) ?_ ?_
                rotate_left
                ·show Act.put _ (some 65) _ = _
                 simp only [Act.put, List.setIfInBounds_toArray, List.set_cons_zero, List.set_cons_succ, i64_w, i32_w]
                 rfl
                refine pure_ (i := 17) (N := some 68) (v := ?_) (a' := ?_) #[true, true, true, true, true, true, true, true, true, true, true, true, true, true, true, true, true, true, false, false, false, false, false, false, false] rfl rfl (any_of HT_.out (by kernel_rfl)) (fun _ _ _ h => h) (Or.inl ⟨by rfl, ?_⟩) ?_ ?_
                rotate_left
                ·intro w'
                 go_simp
                 with_reducible rfl
                rotate_left
                ·simp only [Act.put, List.setIfInBounds_toArray, List.set_cons_zero, List.set_cons_succ, i64_w, i32_w]
                 rfl
                exact norm_ (by first | (simp only [putAll, Act.put, List.setIfInBounds_toArray, List.set_cons_zero, List.set_cons_succ]; done) | (simp only [putAll, Act.put, List.setIfInBounds_toArray, List.set_cons_zero, List.set_cons_succ]; rfl)) (hJ5_9_14 (.slice (some adz_v396) y395.length co81, adz_v396, .slice (some ado84) y399.length co84, ado84) _ ⟨hHeld, (by (with_reducible repeat (first | apply Kd.R_alloc | apply Kd.R_drewN | apply Kd.R_drew)); exact Kd.R_mono HO397.out (fun _ hk => hk.2)), (by (with_reducible repeat (first | apply Kd.R_alloc | apply Kd.R_drewN | apply Kd.R_drew)); exact Kd.R_mono HO401.out (fun _ hk => hk.2)), ⟨_, rfl⟩, ⟨_, rfl⟩, (bk BK382), (bk BK383), (bk BK393), (bk BK394), (bw HB)⟩)
              ·skip
               rintro ⟨v396, adz_v396, v400, adz_v400⟩ w83 ⟨hS_, h0_, h1_, h2_, h3_, h4_, h5_, h6_, h7_, h8_⟩
               have n0_ : Aside0 (Kd.R (Kd.int .i64) 2 w83 w.heap.size (fun k_ => some k_ ≠ (v400 : Value).ownBlock) v396 y395) := ⟨h0_⟩
               have n1_ : Aside0 (Kd.R (Kd.int .i64) 2 w83 w.heap.size (fun k_ => some k_ ≠ (v396 : Value).ownBlock) v400 y399) := ⟨h1_⟩
               have n2_ : Aside0 (∃ c_, (v396 : Value) = .slice (some adz_v396) y395.length c_) := ⟨h2_⟩
               have n3_ : Aside0 (∃ c_, (v400 : Value) = .slice (some adz_v400) y399.length c_) := ⟨h3_⟩
               have n4_ : Aside0 (w83.heap[gb382]? = some (.cells #[.int .i64 t378, .int .i64 t379] 25 (0, 0))) := ⟨h4_⟩
               have n5_ : Aside0 (w83.heap[gb383]? = some (.cells #[.int .i64 t380, .int .i64 t381] 25 (0, 0))) := ⟨h5_⟩
               have n6_ : Aside0 (w83.heap[gb393]? = some (.cells #[.int .i64 t385, .int .i64 t386, .bool t387, .int .i64 t388] 28 (0, 0))) := ⟨h6_⟩
               have n7_ : Aside0 (w83.heap[gb394]? = some (.cells #[.int .i64 t389, .int .i64 t390, .bool t391, .int .i64 t392] 28 (0, 0))) := ⟨h7_⟩
               have n8_ : Aside0 (Below w.heap.size w w83) := ⟨h8_⟩
               clear BK382
               clear BK383
               clear BK393
               clear BK394
               clear HB
               clear h0_ h1_ h2_ h3_ h4_ h5_ h6_ h7_ h8_
               have HO397 := n0_
               have HO401 := n1_
               have HA_HO397 := n2_
               have HA_HO401 := n3_
               have BK382 := n4_
               have BK383 := n5_
               have BK393 := n6_
               have BK394 := n7_
               have HB := n8_
               clear n0_ n1_ n2_ n3_ n4_ n5_ n6_ n7_ n8_
               have hHeld : w83.cell? ⟨gb382, 0, none⟩ = some (.int .i64 t378) ∧ w83.cell? ⟨gb382, 1, none⟩ = some (.int .i64 t379) ∧ w83.cell? ⟨gb383, 0, none⟩ = some (.int .i64 t380) ∧ w83.cell? ⟨gb383, 1, none⟩ = some (.int .i64 t381) := hS_
               obtain ⟨co84, eo84⟩ := HA_HO397.out
               clear HA_HO397
               subst eo84
               obtain ⟨co85, eo85⟩ := HA_HO401.out
               clear HA_HO401
               subst eo85
               refine norm_ (a' := ?_) ?_ ?_
               rotate_left
               ·simp only [putAll, Act.put, List.setIfInBounds_toArray, List.set_cons_zero, List.set_cons_succ]
                rfl
               refine one_ (i := 9) (N := some 60) #[true, true, true, true, true, true, true, true, true, true, true, true, true, true, true, true, true, true, true, false, false, false, false, false, false] rfl rfl (one_of HT_.out (by kernel_rfl)) (by decide) (fun K hK => ?_)
               (have p398 : 0 ≤ ((ji56) : Int) := of_decide_eq_true (by first | (with_reducible assumption) | assumption); have q398 : (ji56) < (y395.length : Int) := of_decide_eq_true (by first | (with_reducible assumption) | assumption); obtain ⟨ad398, e398, hx398_0⟩ := Kd.at_int (Kd.R_reads' HO397.out).2.2 (ji56) p398 q398; obtain rfl : adz_v396 = ad398 := (by injection e398))
               refine value_ (w1 := ?_) (v := ?_) (by rfl) rfl ?_ ?_
               rotate_left 2
               ·go_simp
                constructor
                ·rfl
                ·rfl
               clear hx398_0
               refine hK.out _ _ ⟨(blk_cell BK382.out 0).trans rfl, (blk_cell BK382.out 1).trans rfl, (blk_cell BK383.out 0).trans rfl, (blk_cell BK383.out 1).trans rfl⟩ (fun hHeld => ?_)
               clear hK K
               refine norm_ (a' := ?_) ?_ ?_
               rotate_left
               ·show Act.put _ (some 60) _ = _
                simp only [Act.put, List.setIfInBounds_toArray, List.set_cons_zero, List.set_cons_succ, i64_w, i32_w]
                rfl
               exact norm_ (by first | (simp only [putAll, Act.put, List.setIfInBounds_toArray, List.set_cons_zero, List.set_cons_succ]; done) | (simp only [putAll, Act.put, List.setIfInBounds_toArray, List.set_cons_zero, List.set_cons_succ]; rfl)) (hJ5_9_14_18 (.slice (some adz_v396) y395.length co84, adz_v396, .slice (some adz_v400) y399.length co85, adz_v400) _ ⟨hHeld, (by (with_reducible repeat (first | apply Kd.R_alloc | apply Kd.R_drewN | apply Kd.R_drew)); exact HO397.out), (by (with_reducible repeat (first | apply Kd.R_alloc | apply Kd.R_drewN | apply Kd.R_drew)); exact HO401.out), ⟨_, rfl⟩, ⟨_, rfl⟩, (bk BK382), (bk BK383), (bk BK393), (bk BK394), (bw HB)⟩)
             ·skip
              rintro ⟨v396, adz_v396, v400, adz_v400⟩ w83 ⟨hS_, h0_, h1_, h2_, h3_, h4_, h5_, h6_, h7_, h8_⟩
              have n0_ : Aside0 (Kd.R (Kd.int .i64) 2 w83 w.heap.size (fun k_ => some k_ ≠ (v400 : Value).ownBlock) v396 y395) := ⟨h0_⟩
              have n1_ : Aside0 (Kd.R (Kd.int .i64) 2 w83 w.heap.size (fun k_ => some k_ ≠ (v396 : Value).ownBlock) v400 y399) := ⟨h1_⟩
              have n2_ : Aside0 (∃ c_, (v396 : Value) = .slice (some adz_v396) y395.length c_) := ⟨h2_⟩
              have n3_ : Aside0 (∃ c_, (v400 : Value) = .slice (some adz_v400) y399.length c_) := ⟨h3_⟩
              have n4_ : Aside0 (w83.heap[gb382]? = some (.cells #[.int .i64 t378, .int .i64 t379] 25 (0, 0))) := ⟨h4_⟩
              have n5_ : Aside0 (w83.heap[gb383]? = some (.cells #[.int .i64 t380, .int .i64 t381] 25 (0, 0))) := ⟨h5_⟩
              have n6_ : Aside0 (w83.heap[gb393]? = some (.cells #[.int .i64 t385, .int .i64 t386, .bool t387, .int .i64 t388] 28 (0, 0))) := ⟨h6_⟩
              have n7_ : Aside0 (w83.heap[gb394]? = some (.cells #[.int .i64 t389, .int .i64 t390, .bool t391, .int .i64 t392] 28 (0, 0))) := ⟨h7_⟩
              have n8_ : Aside0 (Below w.heap.size w w83) := ⟨h8_⟩
              clear BK382
              clear BK383
              clear BK393
              clear BK394
              clear HB
              clear h0_ h1_ h2_ h3_ h4_ h5_ h6_ h7_ h8_
              have HO397 := n0_
              have HO401 := n1_
              have HA_HO397 := n2_
              have HA_HO401 := n3_
              have BK382 := n4_
              have BK383 := n5_
              have BK393 := n6_
              have BK394 := n7_
              have HB := n8_
              clear n0_ n1_ n2_ n3_ n4_ n5_ n6_ n7_ n8_
              have hHeld : w83.cell? ⟨gb382, 0, none⟩ = some (.int .i64 t378) ∧ w83.cell? ⟨gb382, 1, none⟩ = some (.int .i64 t379) ∧ w83.cell? ⟨gb383, 0, none⟩ = some (.int .i64 t380) ∧ w83.cell? ⟨gb383, 1, none⟩ = some (.int .i64 t381) := hS_
              obtain ⟨co84, eo84⟩ := HA_HO397.out
              clear HA_HO397
              subst eo84
              obtain ⟨co85, eo85⟩ := HA_HO401.out
              clear HA_HO401
              subst eo85
              refine norm_ (a' := ?_) ?_ ?_
              rotate_left
              ·simp only [putAll, Act.put, List.setIfInBounds_toArray, List.set_cons_zero, List.set_cons_succ]
               rfl
              refine one_ (i := 18) (N := some 69) #[true, true, true, true, true, true, true, true, true, true, true, true, true, true, true, true, true, true, true, false, false, false, false, false, false] rfl rfl (one_of HT_.out (by kernel_rfl)) (by decide) (fun K hK => ?_)
              (have p402 : 0 ≤ ((ji59) : Int) := of_decide_eq_true (by first | (with_reducible assumption) | assumption); have q402 : (ji59) < (y399.length : Int) := of_decide_eq_true (by first | (with_reducible assumption) | assumption); obtain ⟨ad402, e402, hx402_0⟩ := Kd.at_int (Kd.R_reads' HO401.out).2.2 (ji59) p402 q402; obtain rfl : adz_v400 = ad402 := (by injection e402))
              refine value_ (w1 := ?_) (v := ?_) (by rfl) rfl ?_ ?_
              rotate_left 2
              ·go_simp
               constructor
               ·rfl
               ·rfl
              clear hx402_0
              refine hK.out _ _ ⟨(blk_cell BK382.out 0).trans rfl, (blk_cell BK382.out 1).trans rfl, (blk_cell BK383.out 0).trans rfl, (blk_cell BK383.out 1).trans rfl⟩ (fun hHeld => ?_)
              clear hK K
              refine norm_ (a' := ?_) ?_ ?_
              rotate_left
              ·show Act.put _ (some 69) _ = _
               simp only [Act.put, List.setIfInBounds_toArray, List.set_cons_zero, List.set_cons_succ, i64_w, i32_w]
               rfl
              exact norm_ (by first | (simp only [putAll, Act.put, List.setIfInBounds_toArray, List.set_cons_zero, List.set_cons_succ]; done) | (simp only [putAll, Act.put, List.setIfInBounds_toArray, List.set_cons_zero, List.set_cons_succ]; rfl)) (hJ5_9_14_18 (.slice (some adz_v396) y395.length co84, adz_v396, .slice (some adz_v400) y399.length co85, adz_v400) _ ⟨hHeld, (by (with_reducible repeat (first | apply Kd.R_alloc | apply Kd.R_drewN | apply Kd.R_drew)); exact HO397.out), (by (with_reducible repeat (first | apply Kd.R_alloc | apply Kd.R_drewN | apply Kd.R_drew)); exact HO401.out), ⟨_, rfl⟩, ⟨_, rfl⟩, (bk BK382), (bk BK383), (bk BK393), (bk BK394), (bw HB)⟩)
            rintro ⟨v396, adz_v396, v400, adz_v400⟩ w83 ⟨hS_, h0_, h1_, h2_, h3_, h4_, h5_, h6_, h7_, h8_⟩
            have n0_ : Aside0 (Kd.R (Kd.int .i64) 2 w83 w.heap.size (fun k_ => some k_ ≠ (v400 : Value).ownBlock) v396 y395) := ⟨h0_⟩
            have n1_ : Aside0 (Kd.R (Kd.int .i64) 2 w83 w.heap.size (fun k_ => some k_ ≠ (v396 : Value).ownBlock) v400 y399) := ⟨h1_⟩
            have n2_ : Aside0 (∃ c_, (v396 : Value) = .slice (some adz_v396) y395.length c_) := ⟨h2_⟩
            have n3_ : Aside0 (∃ c_, (v400 : Value) = .slice (some adz_v400) y399.length c_) := ⟨h3_⟩
            have n4_ : Aside0 (w83.heap[gb382]? = some (.cells #[.int .i64 t378, .int .i64 t379] 25 (0, 0))) := ⟨h4_⟩
            have n5_ : Aside0 (w83.heap[gb383]? = some (.cells #[.int .i64 t380, .int .i64 t381] 25 (0, 0))) := ⟨h5_⟩
            have n6_ : Aside0 (w83.heap[gb393]? = some (.cells #[.int .i64 t385, .int .i64 t386, .bool t387, .int .i64 t388] 28 (0, 0))) := ⟨h6_⟩
            have n7_ : Aside0 (w83.heap[gb394]? = some (.cells #[.int .i64 t389, .int .i64 t390, .bool t391, .int .i64 t392] 28 (0, 0))) := ⟨h7_⟩
            have n8_ : Aside0 (Below w.heap.size w w83) := ⟨h8_⟩
            clear BK382
            clear BK383
            clear BK393
            clear BK394
            clear HB
            clear h0_ h1_ h2_ h3_ h4_ h5_ h6_ h7_ h8_
            have HO397 := n0_
            have HO401 := n1_
            have HA_HO397 := n2_
            have HA_HO401 := n3_
            have BK382 := n4_
            have BK383 := n5_
            have BK393 := n6_
            have BK394 := n7_
            have HB := n8_
            clear n0_ n1_ n2_ n3_ n4_ n5_ n6_ n7_ n8_
            have hHeld : w83.cell? ⟨gb382, 0, none⟩ = some (.int .i64 t378) ∧ w83.cell? ⟨gb382, 1, none⟩ = some (.int .i64 t379) ∧ w83.cell? ⟨gb383, 0, none⟩ = some (.int .i64 t380) ∧ w83.cell? ⟨gb383, 1, none⟩ = some (.int .i64 t381) := hS_
            obtain ⟨co84, eo84⟩ := HA_HO397.out
            clear HA_HO397
            subst eo84
            obtain ⟨co85, eo85⟩ := HA_HO401.out
            clear HA_HO401
            subst eo85
            refine norm_ (a' := ?_) ?_ ?_
            rotate_left
            ·simp only [putAll, Act.put, List.setIfInBounds_toArray, List.set_cons_zero, List.set_cons_succ]
             rfl
            refine one_ (i := 19) (N := some 70) #[true, true, true, true, true, true, true, true, true, true, true, true, true, true, true, true, true, true, true, true, false, false, false, false, false] rfl rfl (one_of HT_.out (by kernel_rfl)) (by decide) (fun K hK => ?_)
            refine goes_ Try.func16 (by kernel_rfl) rfl #[.int .i64 (Int.tmod t384 4), .int .i64 (rd y395 (ji56)), .int .i64 (rd y399 (ji59))] (by rfl) rfl rfl (by (try simp only [List.map_toArray, List.map_cons, List.map_nil]); first | done | (simp only [hji56, hji59]; rfl) | rfl | (simp only [List.length_drop, List.length_take]; rfl)) ?_
            with_reducible refine (laws_num.calls (Int.tmod t384 4) (rd y395 (ji56)) (rd y399 (ji59)) t403 t404 _ A62.out).mono ?_
            rintro e w' ⟨rfl, ⟨nd, rfl⟩⟩
            refine ⟨_, rfl, ?_⟩
            refine hK.out _ _ ⟨(blk_cell BK382.out 0).trans rfl, (blk_cell BK382.out 1).trans rfl, (blk_cell BK383.out 0).trans rfl, (blk_cell BK383.out 1).trans rfl⟩ (fun hHeld => ?_)
            clear hK K
            refine norm_ (a' := ?_) ?_ ?_
            rotate_left
            ·show Act.put _ (some 70) _ = _
             simp only [Act.put, List.setIfInBounds_toArray, List.set_cons_zero, List.set_cons_succ, i64_w, i32_w]
             rfl
            refine pure_ (i := 20) (N := some 50) (v := ?_) (a' := ?_) #[true, true, true, true, true, true, true, true, true, true, true, true, true, true, true, true, true, true, true, true, true, false, false, false, false] rfl rfl (any_of HT_.out (by kernel_rfl)) (fun _ _ _ h => h) (Or.inl ⟨by rfl, ?_⟩) ?_ ?_
            rotate_left
            ·intro w'
             go_simp
             with_reducible rfl
            rotate_left
            ·simp only [Act.put, List.setIfInBounds_toArray, List.set_cons_zero, List.set_cons_succ, i64_w, i32_w]
             rfl
            refine pure_ (i := 21) (N := some 71) (v := ?_) (a' := ?_) #[true, true, true, true, true, true, true, true, true, true, true, true, true, true, true, true, true, true, true, true, true, true, false, false, false] rfl rfl (any_of HT_.out (by kernel_rfl)) (fun _ _ _ h => h) (Or.inl ⟨by rfl, ?_⟩) ?_ ?_
            rotate_left
            ·intro w'
             go_simp
             with_reducible rfl
            rotate_left
            ·simp only [Act.put, List.setIfInBounds_toArray, List.set_cons_zero, List.set_cons_succ, i64_w, i32_w]
             rfl
            refine pure_ (i := 22) (N := some 72) (v := ?_) (a' := ?_) #[true, true, true, true, true, true, true, true, true, true, true, true, true, true, true, true, true, true, true, true, true, true, true, false, false] rfl rfl (any_of HT_.out (by kernel_rfl)) (fun _ _ _ h => h) (Or.inl ⟨by rfl, ?_⟩) ?_ ?_
            rotate_left
            ·intro w'
             go_simp
             with_reducible rfl
            rotate_left
            ·simp only [Act.put, List.setIfInBounds_toArray, List.set_cons_zero, List.set_cons_succ, i64_w, i32_w]
             rfl
            refine pure_ (i := 23) (N := some 11) (v := ?_) (a' := ?_) #[true, true, true, true, true, true, true, true, true, true, true, true, true, true, true, true, true, true, true, true, true, true, true, true, false] rfl rfl (any_of HT_.out (by kernel_rfl)) (fun _ _ _ h => h) (Or.inl ⟨by rfl, ?_⟩) ?_ ?_
            rotate_left
            ·intro w'
             go_simp
             with_reducible rfl
            rotate_left
            ·simp only [Act.put, List.setIfInBounds_toArray, List.set_cons_zero, List.set_cons_succ, i64_w, i32_w]
             rfl
            refine pure_ (i := 24) (N := some 12) (v := ?_) (a' := ?_) #[true, true, true, true, true, true, true, true, true, true, true, true, true, true, true, true, true, true, true, true, true, true, true, true, true] rfl rfl (any_of HT_.out (by kernel_rfl)) (fun _ _ _ h => h) (Or.inl ⟨by rfl, ?_⟩) ?_ ?_
            rotate_left
            ·intro w'
             go_simp
             with_reducible rfl
            rotate_left
            ·simp only [Act.put, List.setIfInBounds_toArray, List.set_cons_zero, List.set_cons_succ, i64_w, i32_w]
             rfl
            refine done_ (done_of HT_.out (by kernel_rfl)) ?_
            have hnb86 := NB393_382.out
            have hnc86 := NB382_393.out
            have hnb87 := NB393_383.out
            have hnc87 := NB383_393.out
            have hnb88 := NB393_394.out
            have hnc88 := NB394_393.out
            have hcz89_0 : w83.cell? ⟨gb393, 0, none⟩ = some (.int .i64 t385) := (blk_cell BK393.out 0).trans rfl
            have hcz89_1 : w83.cell? ⟨gb393, 1, none⟩ = some (.int .i64 t386) := (blk_cell BK393.out 1).trans rfl
            have hcz89_2 : w83.cell? ⟨gb393, 2, none⟩ = some (.bool t387) := (blk_cell BK393.out 2).trans rfl
            have hcz89_3 : w83.cell? ⟨gb393, 3, none⟩ = some (.int .i64 t388) := (blk_cell BK393.out 3).trans rfl
            have hfz89_0 := blk_frozen BK393.out 0
            have hfz89_1 := blk_frozen BK393.out 1
            have hfz89_2 := blk_frozen BK393.out 2
            have hfz89_3 := blk_frozen BK393.out 3
            have H := HH_.out
            clear HH_
            by_cases c63 : x8_2 = true
            ·subst c63
             have H1 : (if x9_2 = true then (laws_FnIvEnds.l0 k2 (Int.tmod t384 4) true true (wrap64 (x10_2 + 1)) t378 t379 t380 t381 t385 t386 t387 t388) else (if t404 = 0 then (laws_FnIvEnds.l0 k2 (Int.tmod t384 4) true (t403 == t386) (wrap64 (x10_2 + 1)) t378 t379 t380 t381 t385 t386 t387 t388) else (laws_FnIvEnds.l0 k2 (Int.tmod t384 4) true false (wrap64 (x10_2 + 1)) t378 t379 t380 t381 t385 t386 t387 t388))) = some true := by rw [if_pos rfl] at H; first | done | exact H
             clear H
             have H := H1
             clear H1
             by_cases c64 : x9_2 = true
             ·subst c64
              have H1 : (laws_FnIvEnds.l0 k2 (Int.tmod t384 4) true true (wrap64 (x10_2 + 1)) t378 t379 t380 t381 t385 t386 t387 t388) = some true := by rw [if_pos rfl] at H; first | done | exact H
              clear H
              have H := H1
              clear H1
              have H' := Aside0.mk H
              clear H
              try go_wp2
              go_roundg k2
              case measure => have := HJ6.out; have := HK2.out; omega
              case rel => exact ⟨(true), (true), (wrap64 (x10_2 + 1)), (by first | rfl | (simp; done) | (simp [*]; done)), (by first | rfl | (simp; done) | (simp [*]; done)), (by first | rfl | (simp; done) | (simp [*]; done)), H', ⟨by have := HJ6.out; have := HK2.out; omega⟩, ⟨bx BK382⟩, ⟨bx BK383⟩, ⟨bx BK393⟩, ⟨bx BK394⟩, ⟨bw HB⟩⟩
             ·replace c64 := Bool.eq_false_iff.mpr c64
              subst c64
              have H1 : (if t404 = 0 then (laws_FnIvEnds.l0 k2 (Int.tmod t384 4) true (t403 == t386) (wrap64 (x10_2 + 1)) t378 t379 t380 t381 t385 t386 t387 t388) else (laws_FnIvEnds.l0 k2 (Int.tmod t384 4) true false (wrap64 (x10_2 + 1)) t378 t379 t380 t381 t385 t386 t387 t388)) = some true := by rw [if_neg (show ¬ (false = true) by decide)] at H; first | done | exact H
              clear H
              have H := H1
              clear H1
              by_cases c75 : t404 = 0
              ·rw [if_pos c75] at H
               have c75b0 : (t404 == 0) = true := beq_iff_eq.mpr c75
               have c75b1 : (t404 != 0) = false := bne_eq_false_iff_eq.mpr c75
               clear c75
               have H' := Aside0.mk H
               clear H
               try go_wp2
               go_roundg k2
               case measure => have := HJ6.out; have := HK2.out; omega
               case rel => exact ⟨(true), ((t403 == t386)), (wrap64 (x10_2 + 1)), (by first | rfl | (simp; done) | (simp [*]; done)), (by first | rfl | (simp; done) | (simp [*]; done)), (by first | rfl | (simp; done) | (simp [*]; done)), H', ⟨by have := HJ6.out; have := HK2.out; omega⟩, ⟨bx BK382⟩, ⟨bx BK383⟩, ⟨bx BK393⟩, ⟨bx BK394⟩, ⟨bw HB⟩⟩
              ·rw [if_neg c75] at H
               have c75b0 : (t404 == 0) = false := beq_eq_false_iff_ne.mpr c75
               have c75b1 : (t404 != 0) = true := bne_iff_ne.mpr c75
               have H' := Aside0.mk H
               clear H
               try go_wp2
               go_roundg k2
               case measure => have := HJ6.out; have := HK2.out; omega
               case rel => exact ⟨(true), (false), (wrap64 (x10_2 + 1)), (by first | rfl | (simp; done) | (simp [*]; done)), (by first | rfl | (simp; done) | (simp [*]; done)), (by first | rfl | (simp; done) | (simp [*]; done)), H', ⟨by have := HJ6.out; have := HK2.out; omega⟩, ⟨bx BK382⟩, ⟨bx BK383⟩, ⟨bx BK393⟩, ⟨bx BK394⟩, ⟨bw HB⟩⟩
            ·replace c63 := Bool.eq_false_iff.mpr c63
             subst c63
             have H1 : (if t404 = 0 then (if x9_2 = true then (laws_FnIvEnds.l0 k2 (Int.tmod t384 4) (t403 == t385) true (wrap64 (x10_2 + 1)) t378 t379 t380 t381 t385 t386 t387 t388) else (laws_FnIvEnds.l0 k2 (Int.tmod t384 4) (t403 == t385) (t403 == t386) (wrap64 (x10_2 + 1)) t378 t379 t380 t381 t385 t386 t387 t388)) else (if x9_2 = true then (laws_FnIvEnds.l0 k2 (Int.tmod t384 4) false true (wrap64 (x10_2 + 1)) t378 t379 t380 t381 t385 t386 t387 t388) else (laws_FnIvEnds.l0 k2 (Int.tmod t384 4) false false (wrap64 (x10_2 + 1)) t378 t379 t380 t381 t385 t386 t387 t388))) = some true := by rw [if_neg (show ¬ (false = true) by decide)] at H; first | done | exact H
             clear H
             have H := H1
             clear H1
             by_cases c100 : t404 = 0
             ·rw [if_pos c100] at H
              have c100b0 : (t404 == 0) = true := beq_iff_eq.mpr c100
              have c100b1 : (t404 != 0) = false := bne_eq_false_iff_eq.mpr c100
              clear c100
              by_cases c101 : x9_2 = true
              ·subst c101
               have H1 : (laws_FnIvEnds.l0 k2 (Int.tmod t384 4) (t403 == t385) true (wrap64 (x10_2 + 1)) t378 t379 t380 t381 t385 t386 t387 t388) = some true := by rw [if_pos rfl] at H; first | done | exact H
               clear H
               have H := H1
               clear H1
               have H' := Aside0.mk H
               clear H
               try go_wp2
               go_roundg k2
               case measure => have := HJ6.out; have := HK2.out; omega
               case rel => exact ⟨((t403 == t385)), (true), (wrap64 (x10_2 + 1)), (by first | rfl | (simp; done) | (simp [*]; done)), (by first | rfl | (simp; done) | (simp [*]; done)), (by first | rfl | (simp; done) | (simp [*]; done)), H', ⟨by have := HJ6.out; have := HK2.out; omega⟩, ⟨bx BK382⟩, ⟨bx BK383⟩, ⟨bx BK393⟩, ⟨bx BK394⟩, ⟨bw HB⟩⟩
              ·replace c101 := Bool.eq_false_iff.mpr c101
               subst c101
               have H1 : (laws_FnIvEnds.l0 k2 (Int.tmod t384 4) (t403 == t385) (t403 == t386) (wrap64 (x10_2 + 1)) t378 t379 t380 t381 t385 t386 t387 t388) = some true := by rw [if_neg (show ¬ (false = true) by decide)] at H; first | done | exact H
               clear H
               have H := H1
               clear H1
               have H' := Aside0.mk H
               clear H
               try go_wp2
               go_roundg k2
               case measure => have := HJ6.out; have := HK2.out; omega
               case rel => exact ⟨((t403 == t385)), ((t403 == t386)), (wrap64 (x10_2 + 1)), (by first | rfl | (simp; done) | (simp [*]; done)), (by first | rfl | (simp; done) | (simp [*]; done)), (by first | rfl | (simp; done) | (simp [*]; done)), H', ⟨by have := HJ6.out; have := HK2.out; omega⟩, ⟨bx BK382⟩, ⟨bx BK383⟩, ⟨bx BK393⟩, ⟨bx BK394⟩, ⟨bw HB⟩⟩
             ·rw [if_neg c100] at H
              have c100b0 : (t404 == 0) = false := beq_eq_false_iff_ne.mpr c100
              have c100b1 : (t404 != 0) = true := bne_iff_ne.mpr c100
              by_cases c130 : x9_2 = true
              ·subst c130
               have H1 : (laws_FnIvEnds.l0 k2 (Int.tmod t384 4) false true (wrap64 (x10_2 + 1)) t378 t379 t380 t381 t385 t386 t387 t388) = some true := by rw [if_pos rfl] at H; first | done | exact H
               clear H
               have H := H1
               clear H1
               have H' := Aside0.mk H
               clear H
               try go_wp2
               go_roundg k2
               case measure => have := HJ6.out; have := HK2.out; omega
               case rel => exact ⟨(false), (true), (wrap64 (x10_2 + 1)), (by first | rfl | (simp; done) | (simp [*]; done)), (by first | rfl | (simp; done) | (simp [*]; done)), (by first | rfl | (simp; done) | (simp [*]; done)), H', ⟨by have := HJ6.out; have := HK2.out; omega⟩, ⟨bx BK382⟩, ⟨bx BK383⟩, ⟨bx BK393⟩, ⟨bx BK394⟩, ⟨bw HB⟩⟩
              ·replace c130 := Bool.eq_false_iff.mpr c130
               subst c130
               have H1 : (laws_FnIvEnds.l0 k2 (Int.tmod t384 4) false false (wrap64 (x10_2 + 1)) t378 t379 t380 t381 t385 t386 t387 t388) = some true := by rw [if_neg (show ¬ (false = true) by decide)] at H; first | done | exact H
               clear H
               have H := H1
               clear H1
               have H' := Aside0.mk H
               clear H
               try go_wp2
               go_roundg k2
               case measure => have := HJ6.out; have := HK2.out; omega
               case rel => exact ⟨(false), (false), (wrap64 (x10_2 + 1)), (by first | rfl | (simp; done) | (simp [*]; done)), (by first | rfl | (simp; done) | (simp [*]; done)), (by first | rfl | (simp; done) | (simp [*]; done)), H', ⟨by have := HJ6.out; have := HK2.out; omega⟩, ⟨bx BK382⟩, ⟨bx BK383⟩, ⟨bx BK393⟩, ⟨bx BK394⟩, ⟨bw HB⟩⟩
           ·rw [if_neg c61] at H
            exact absurd H (by simp)
          ·rw [if_neg c60] at H
           exact absurd H (by simp)
         ·rw [if_neg c58] at H
          exact absurd H (by simp)
        ·rw [if_neg c57] at H
         exact absurd H (by simp)
       ·rw [if_neg c55] at H
        have c55b0 : decide (x10_2 < 4) = false := decide_eq_false c55
        clear c55
        by_cases c151 : x8_2 = true
        ·subst c151
         have H1 : (some x9_2) = some true := by rw [if_pos rfl] at H; first | done | exact H
         clear H
         have H := H1
         clear H1
         have HE_ := Aside0.mk (Option.some.inj H)
         clear H
         go_wp2
         go_ret
         exact ⟨by first | rfl | exact congrArg (fun b_ => Ending.returned (Value.bool b_)) HE_.out | (refine absurd HE_.out ?_; simp [*]; done) | (have h_ := HE_.out; clear HE_; simp_all; done) | (have h_ := HE_.out; clear HE_; simp_all; omega) | (simp [errW_none, errW_some] <;> rfl) | (simp [*, errW_none, errW_some] <;> rfl), bw HB⟩
        ·replace c151 := Bool.eq_false_iff.mpr c151
         subst c151
         have H1 : (some false) = some true := by rw [if_neg (show ¬ (false = true) by decide)] at H; first | done | exact H
         clear H
         have H := H1
         clear H1
         exact absurd (Option.some.inj H) (by decide)

end Go.Proofs.Ytdjhalelgknnkaa.Q
