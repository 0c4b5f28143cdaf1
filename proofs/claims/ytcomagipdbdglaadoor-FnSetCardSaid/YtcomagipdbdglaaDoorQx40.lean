-- Contracts of the program's functions, each with the plain function that it computes.
import Derived.Test.YtcomagipdbdglaaDoorQx0
import Derived.Test.YtcomagipdbdglaaDoorQx1
import Derived.Test.YtcomagipdbdglaaDoorQx2
import Derived.Test.YtcomagipdbdglaaDoorQx15
import Derived.Test.YtcomagipdbdglaaDoorQx27
import Derived.Test.YtcomagipdbdglaaDoorQx28
import Derived.Test.YtcomagipdbdglaaDoorQx29
import Derived.Test.YtcomagipdbdglaaDoorQx39
namespace Go.Proofs.YtcomagipdbdglaaDoor.Q
open Go.RowKit Go.Proofs.YtcomagipdbdglaaDoorW.PrintWords Go.Proofs.YtcomagipdbdglaaDoorW.PrintLast Go.Proofs.YtcomagipdbdglaaDoorW.PrintMore
attribute [local go_sem] max2_int min2_int max_two min_two max_three min_three max_four min_four   -- for this text's walks alone
set_option linter.unusedVariables false
set_option linter.unusedSimpArgs false

attribute [local go_sem high] eqA78
/-! ### laws_FnSet: function 10 -/
mutual
def laws_FnSet.j0 : Nat → Int → Bool → List ByteArray → List ByteArray → List (S91) → Bool → List (S78) → List (S78) → Int → Int → Bool → List (S78) → List (S78) → Option (Bool)
 | 0, _, _, _, _, _, _, _, _, _, _, _, _, _ => none
 | k + 1, x5, x35, x397000, x397001, x397002, x398000, x398001, x398002, x399000, x399001, x407000, x407001, x407002 => if x35 = true then ((spec_EnvSet.f k x397000 x397001 x397002 x398000 x398001 x398002 x5 x399000 x399001).bind fun bt415 => ((laws_sameEnv.f k x407000 x407001 x407002 bt415.1 bt415.2.1 bt415.2.2).bind fun t422 => (some t422))) else (laws_FnSet.l0 k x5 0 x398000 x398001 x398002 x399000 x399001 x407000 x407001 x407002)
def laws_FnSet.l0 : Nat → Int → Int → Bool → List (S78) → List (S78) → Int → Int → Bool → List (S78) → List (S78) → Option (Bool)
 | 0, _, _, _, _, _, _, _, _, _, _ => none
 | k + 1, x5, x8, x398000, x398001, x398002, x399000, x399001, x407000, x407001, x407002 => if x8 < (x407001.length : Int) then (if x8 = x5 then (laws_FnSet.l0 k x5 (wrap64 (x8 + 1)) x398000 x398001 x398002 x399000 x399001 x407000 x407001 x407002) else (if 0 ≤ x8 then (if x8 < (x398001.length : Int) then (if (!(((rd_T78 x407001 x8).f0) == ((rd_T78 x398001 x8).f0)) || (!(((rd_T78 x407001 x8).f1) == ((rd_T78 x398001 x8).f1)))) = true then (some false) else (laws_FnSet.l0 k x5 (wrap64 (x8 + 1)) x398000 x398001 x398002 x399000 x399001 x407000 x407001 x407002)) else (none)) else (none))) else (if 0 ≤ x5 then (if x5 < (x407001.length : Int) then (if (((rd_T78 x407001 x5).f0) == x399000 && (((rd_T78 x407001 x5).f1) == x399001)) = true then ((laws_sameIvs.f k x407002 x398002).bind fun t426 => (if t426 = true then (some ((x407001.length : Int) == (x398001.length : Int))) else (some false))) else (some false)) else (none)) else (none))
end
def laws_FnSet.f (k : Nat) (l0 : List Int) : Option (Bool) := (laws_big.f l0).bind fun t376 => (if t376 = true then (some true) else ((spec_DrawEnvSet.f k l0).bind fun bt377 => ((impl_EnvSet.f bt377.1 bt377.2.1 bt377.2.2.1 bt377.2.2.2.1 bt377.2.2.2.2.1 bt377.2.2.2.2.2.1 bt377.2.2.2.2.2.2.1 bt377.2.2.2.2.2.2.2.1 bt377.2.2.2.2.2.2.2.2).bind fun bt399 => ((spec_EnvSet.f k bt377.1 bt377.2.1 bt377.2.2.1 bt377.2.2.2.1 bt377.2.2.2.2.1 bt377.2.2.2.2.2.1 bt377.2.2.2.2.2.2.1 bt377.2.2.2.2.2.2.2.1 bt377.2.2.2.2.2.2.2.2).bind fun bt407 => ((laws_sameEnv.f k bt399.1 bt399.2.1 bt399.2.2 bt407.1 bt407.2.1 bt407.2.2).bind fun t414 => (if t414 = true then (laws_FnSet.j0 k bt377.2.2.2.2.2.2.1 (!bt399.1) bt377.1 bt377.2.1 bt377.2.2.1 bt377.2.2.2.1 bt377.2.2.2.2.1 bt377.2.2.2.2.2.1 bt377.2.2.2.2.2.2.2.1 bt377.2.2.2.2.2.2.2.2 bt399.1 bt399.2.1 bt399.2.2) else (laws_FnSet.j0 k bt377.2.2.2.2.2.2.1 true bt377.1 bt377.2.1 bt377.2.2.1 bt377.2.2.2.1 bt377.2.2.2.2.1 bt377.2.2.2.2.2.1 bt377.2.2.2.2.2.2.2.1 bt377.2.2.2.2.2.2.2.2 bt399.1 bt399.2.1 bt399.2.2)))))))
theorem laws_FnSet.mono_l : ∀ k, (∀ y0 y1 y2 y3 y4 y5 y6 y7 y8 y9 y10 y11 y12, LeO (laws_FnSet.j0 k y0 y1 y2 y3 y4 y5 y6 y7 y8 y9 y10 y11 y12) (laws_FnSet.j0 (k + 1) y0 y1 y2 y3 y4 y5 y6 y7 y8 y9 y10 y11 y12)) ∧ (∀ y0 y1 y2 y3 y4 y5 y6 y7 y8 y9, LeO (laws_FnSet.l0 k y0 y1 y2 y3 y4 y5 y6 y7 y8 y9) (laws_FnSet.l0 (k + 1) y0 y1 y2 y3 y4 y5 y6 y7 y8 y9))
 | 0 => ⟨fun _ _ _ _ _ _ _ _ _ _ _ _ _ r h => by simp [laws_FnSet.j0] at h, fun _ _ _ _ _ _ _ _ _ _ r h => by simp [laws_FnSet.l0] at h⟩
 | k + 1 => by
  obtain ⟨ih0, ih1⟩ := laws_FnSet.mono_l k
  refine ⟨?_, ?_⟩
  ·intro y0 y1 y2 y3 y4 y5 y6 y7 y8 y9 y10 y11 y12
   unfold laws_FnSet.j0
   repeat' first
   | (with_reducible exact ih0 _ _ _ _ _ _ _ _ _ _ _ _ _)
   | (with_reducible exact ih1 _ _ _ _ _ _ _ _ _ _)
   | (with_reducible exact laws_sameEnv.mono _ _ _ _ _ _ _)
   | (with_reducible exact laws_sameIvs.mono _ _ _)
   | (with_reducible exact spec_DrawEnvSet.mono _ _)
   | (with_reducible exact spec_EnvSet.mono _ _ _ _ _ _ _ _ _ _)
   | (with_reducible exact LeO.refl _)
   | (with_reducible exact LeO.none _)
   | (with_reducible refine LeO.ite ?_ ?_)
   | (with_reducible refine LeO.bind ?_ (fun _ => ?_))
   | exact ih0 _ _ _ _ _ _ _ _ _ _ _ _ _
   | exact ih1 _ _ _ _ _ _ _ _ _ _
   | exact laws_sameEnv.mono _ _ _ _ _ _ _
   | exact laws_sameIvs.mono _ _ _
   | exact spec_DrawEnvSet.mono _ _
   | exact spec_EnvSet.mono _ _ _ _ _ _ _ _ _ _
   | exact LeO.none _
   | refine LeO.ite ?_ ?_
   | refine LeO.bind ?_ (fun _ => ?_)
  ·intro y0 y1 y2 y3 y4 y5 y6 y7 y8 y9
   unfold laws_FnSet.l0
   repeat' first
   | (with_reducible exact ih0 _ _ _ _ _ _ _ _ _ _ _ _ _)
   | (with_reducible exact ih1 _ _ _ _ _ _ _ _ _ _)
   | (with_reducible exact laws_sameEnv.mono _ _ _ _ _ _ _)
   | (with_reducible exact laws_sameIvs.mono _ _ _)
   | (with_reducible exact spec_DrawEnvSet.mono _ _)
   | (with_reducible exact spec_EnvSet.mono _ _ _ _ _ _ _ _ _ _)
   | (with_reducible exact LeO.refl _)
   | (with_reducible exact LeO.none _)
   | (with_reducible refine LeO.ite ?_ ?_)
   | (with_reducible refine LeO.bind ?_ (fun _ => ?_))
   | exact ih0 _ _ _ _ _ _ _ _ _ _ _ _ _
   | exact ih1 _ _ _ _ _ _ _ _ _ _
   | exact laws_sameEnv.mono _ _ _ _ _ _ _
   | exact laws_sameIvs.mono _ _ _
   | exact spec_DrawEnvSet.mono _ _
   | exact spec_EnvSet.mono _ _ _ _ _ _ _ _ _ _
   | exact LeO.none _
   | refine LeO.ite ?_ ?_
   | refine LeO.bind ?_ (fun _ => ?_)
theorem laws_FnSet.mono : ∀ a0 k, LeO (laws_FnSet.f k a0) (laws_FnSet.f (k + 1) a0) := by
 intro a0 k
 obtain ⟨ih0, ih1⟩ := laws_FnSet.mono_l k
 unfold laws_FnSet.f
 repeat' first
   | (with_reducible exact ih0 _ _ _ _ _ _ _ _ _ _ _ _ _)
   | (with_reducible exact ih1 _ _ _ _ _ _ _ _ _ _)
   | (with_reducible exact laws_sameEnv.mono _ _ _ _ _ _ _)
   | (with_reducible exact laws_sameIvs.mono _ _ _)
   | (with_reducible exact spec_DrawEnvSet.mono _ _)
   | (with_reducible exact spec_EnvSet.mono _ _ _ _ _ _ _ _ _ _)
   | (with_reducible exact LeO.refl _)
   | (with_reducible exact LeO.none _)
   | (with_reducible refine LeO.ite ?_ ?_)
   | (with_reducible refine LeO.bind ?_ (fun _ => ?_))
   | exact ih0 _ _ _ _ _ _ _ _ _ _ _ _ _
   | exact ih1 _ _ _ _ _ _ _ _ _ _
   | exact laws_sameEnv.mono _ _ _ _ _ _ _
   | exact laws_sameIvs.mono _ _ _
   | exact spec_DrawEnvSet.mono _ _
   | exact spec_EnvSet.mono _ _ _ _ _ _ _ _ _ _
   | exact LeO.none _
   | refine LeO.ite ?_ ?_
   | refine LeO.bind ?_ (fun _ => ?_)
def laws_FnSet.T5 : Bool × List (List Nat × List Nat) := (true, [([], []), ([], []), ([], []), ([], []), ([], []), ([1, 2, 3, 4], [1, 2, 3, 4]), ([0, 5, 5], [0, 5]), ([6], [6]), ([7, 6], [7]), ([8], [8]), ([9, 8], [8, 9]), ([10, 8], [8, 10]), ([8, 11], [8, 11])])
def laws_FnSet.B5 : List Nat := [0, 0, 0, 0, 0, 30, 63, 127, 255, 511, 1023, 2047, 4095]
theorem laws_FnSet.tab5 : rtab .any (opsOf Tryd.f10 5) = laws_FnSet.T5 := by kernel_rfl
theorem laws_FnSet.bits5 : waitsOk laws_FnSet.T5.2 laws_FnSet.B5 = true := by kernel_rfl
def laws_FnSet.T6 : Bool × List (List Nat × List Nat) := (true, [([], []), ([], []), ([], []), ([], []), ([], []), ([1, 2, 3, 4], [1, 2, 3, 4]), ([0, 5, 5], [0, 5]), ([6, 6, 0, 1, 2, 3, 4, 5, 6], [6])])
def laws_FnSet.B6 : List Nat := [0, 0, 0, 0, 0, 30, 63, 127]
theorem laws_FnSet.tab6 : rtab .any (opsOf Tryd.f10 6) = laws_FnSet.T6 := by kernel_rfl
theorem laws_FnSet.bits6 : waitsOk laws_FnSet.T6.2 laws_FnSet.B6 = true := by kernel_rfl
def laws_FnSet.T10 : Bool × List (List Nat × List Nat) := (true, [([], []), ([], []), ([0, 1], [0, 1]), ([2], [2]), ([3], [3]), ([4, 3], [3, 4]), ([3], [3]), ([5, 6, 3], [3, 5, 6]), ([7, 3], [3, 7]), ([3], [3]), ([9, 3], [3, 9]), ([3], [3]), ([10, 11, 3], [3, 10, 11]), ([12, 3], [3, 12]), ([8, 13, 3], [3, 8, 13]), ([3, 14], [3, 14])])
def laws_FnSet.B10 : List Nat := [0, 0, 3, 7, 15, 31, 15, 127, 255, 15, 527, 15, 3599, 7695, 16383, 32767]
theorem laws_FnSet.tab10 : rtab .any (opsOf Tryd.f10 10) = laws_FnSet.T10 := by kernel_rfl
theorem laws_FnSet.bits10 : waitsOk laws_FnSet.T10.2 laws_FnSet.B10 = true := by kernel_rfl
def laws_FnSet.T12 : Bool × List (List Nat × List Nat) := (true, [([], []), ([0], [0]), ([], []), ([1, 2], [1, 2]), ([3], [3]), ([], []), ([4, 5], [4, 5]), ([6], [6]), ([7], [7]), ([8, 7], [7, 8]), ([7], [7]), ([10, 7], [7, 10]), ([9, 11, 7, 7], [7, 9, 11]), ([7, 12], [7, 12]), ([13, 12], [13]), ([14], [14]), ([15, 14], [14, 15]), ([16, 14], [14, 16]), ([14], [14]), ([18, 14], [14, 18]), ([19, 14], [14, 19]), ([17, 20, 14], [14, 17, 20]), ([14, 21], [14, 21]), ([22, 14, 0, 1, 2, 3, 4, 5, 6, 7, 8, 9, 10, 11, 12, 13, 14, 15, 16, 17, 18, 19, 20, 21, 22], [22])])
def laws_FnSet.B12 : List Nat := [0, 1, 0, 7, 15, 0, 63, 127, 255, 511, 255, 1279, 4095, 8191, 16383, 32767, 65535, 131071, 32767, 294911, 819199, 2097151, 4194303, 8388607]
theorem laws_FnSet.tab12 : rtab .any (opsOf Tryd.f10 12) = laws_FnSet.T12 := by kernel_rfl
theorem laws_FnSet.bits12 : waitsOk laws_FnSet.T12.2 laws_FnSet.B12 = true := by kernel_rfl
set_option maxHeartbeats 8000000 in
set_option maxRecDepth 100000 in
theorem laws_FnSet.calls (k : Nat) (A0 : Option Addr) (c0 : Nat) (l0 : List Int) (w : World) (hr0 : Kd.C (Kd.int .u8) w A0 l0.length l0) (hc0 : l0.length ≤ c0) (h : laws_FnSet.f k l0 = some true) (hTAB : TabW w := by first | exact HTAB.out | exact TabW.drewN HTAB.out _ | exact TabW.below HTAB.out (by repeat (first | (with_reducible first | exact HB.out | apply below_alloc | apply pw_below_drewN | apply below_drew1 | refine below_set ?_ (Aside0.out (by assumption))) | exact HB.out))) :
  Calls Tryd.prog 10 #[.slice A0 l0.length c0] w fun e w' => e = .returned (.bool true) ∧ Below w.heap.size w w' := by
 have HTAB := Aside0.mk hTAB
 clear hTAB
 have hu30 := Tryd.underlying30
 have hu41 := Tryd.underlying41
 have hu78 := Tryd.underlying78
 have HR0 := Aside0.mk hr0
 have HC0 := Aside0.mk hc0
 clear hr0 hc0
 have HB := Aside0.mk (Below.refl w.heap.size w)
 have H : ((laws_big.f l0).bind fun t376 => (if t376 = true then (some true) else ((spec_DrawEnvSet.f k l0).bind fun bt377 => ((impl_EnvSet.f bt377.1 bt377.2.1 bt377.2.2.1 bt377.2.2.2.1 bt377.2.2.2.2.1 bt377.2.2.2.2.2.1 bt377.2.2.2.2.2.2.1 bt377.2.2.2.2.2.2.2.1 bt377.2.2.2.2.2.2.2.2).bind fun bt399 => ((spec_EnvSet.f k bt377.1 bt377.2.1 bt377.2.2.1 bt377.2.2.2.1 bt377.2.2.2.2.1 bt377.2.2.2.2.2.1 bt377.2.2.2.2.2.2.1 bt377.2.2.2.2.2.2.2.1 bt377.2.2.2.2.2.2.2.2).bind fun bt407 => ((laws_sameEnv.f k bt399.1 bt399.2.1 bt399.2.2 bt407.1 bt407.2.1 bt407.2.2).bind fun t414 => (if t414 = true then (laws_FnSet.j0 k bt377.2.2.2.2.2.2.1 (!bt399.1) bt377.1 bt377.2.1 bt377.2.2.1 bt377.2.2.2.1 bt377.2.2.2.2.1 bt377.2.2.2.2.2.1 bt377.2.2.2.2.2.2.2.1 bt377.2.2.2.2.2.2.2.2 bt399.1 bt399.2.1 bt399.2.2) else (laws_FnSet.j0 k bt377.2.2.2.2.2.2.1 true bt377.1 bt377.2.1 bt377.2.2.1 bt377.2.2.2.1 bt377.2.2.2.2.1 bt377.2.2.2.2.2.1 bt377.2.2.2.2.2.2.2.1 bt377.2.2.2.2.2.2.2.2 bt399.1 bt399.2.1 bt399.2.2)))))))) = some true := h
 clear h
 replace H := Option.bind_eq_some_iff.mp H
 obtain ⟨t376, A20, H⟩ := H
 replace H : (if t376 = true then (some true) else ((spec_DrawEnvSet.f k l0).bind fun bt377 => ((impl_EnvSet.f bt377.1 bt377.2.1 bt377.2.2.1 bt377.2.2.2.1 bt377.2.2.2.2.1 bt377.2.2.2.2.2.1 bt377.2.2.2.2.2.2.1 bt377.2.2.2.2.2.2.2.1 bt377.2.2.2.2.2.2.2.2).bind fun bt399 => ((spec_EnvSet.f k bt377.1 bt377.2.1 bt377.2.2.1 bt377.2.2.2.1 bt377.2.2.2.2.1 bt377.2.2.2.2.2.1 bt377.2.2.2.2.2.2.1 bt377.2.2.2.2.2.2.2.1 bt377.2.2.2.2.2.2.2.2).bind fun bt407 => ((laws_sameEnv.f k bt399.1 bt399.2.1 bt399.2.2 bt407.1 bt407.2.1 bt407.2.2).bind fun t414 => (if t414 = true then (laws_FnSet.j0 k bt377.2.2.2.2.2.2.1 (!bt399.1) bt377.1 bt377.2.1 bt377.2.2.1 bt377.2.2.2.1 bt377.2.2.2.2.1 bt377.2.2.2.2.2.1 bt377.2.2.2.2.2.2.2.1 bt377.2.2.2.2.2.2.2.2 bt399.1 bt399.2.1 bt399.2.2) else (laws_FnSet.j0 k bt377.2.2.2.2.2.2.1 true bt377.1 bt377.2.1 bt377.2.2.1 bt377.2.2.2.1 bt377.2.2.2.2.1 bt377.2.2.2.2.2.1 bt377.2.2.2.2.2.2.2.1 bt377.2.2.2.2.2.2.2.2 bt399.1 bt399.2.1 bt399.2.2))))))) = some true := H
 have A2 := Aside0.mk A20
 clear A20
 by_cases c3 : t376 = true
 ·subst c3
  have H1 : (some true) = some true := by rw [if_pos rfl] at H; first | done | exact H
  clear H
  have H := H1
  clear H1
  have HE_ := Aside0.mk (Option.some.inj H)
  clear H
  go_enter Tryd.func10, Tryd.ntmps10
  go_wp2_with (((with_reducible refine gate_callee (f := 44) rfl ?_); refine goesL_ (some 10) rfl rfl Tryd.func44 (by kernel_rfl) rfl #[.slice A0 l0.length c0] rfl (by (try simp only [List.map_toArray, List.map_cons, List.map_nil]); first | done | rfl | (simp only [List.length_drop, List.length_take]; rfl)) ?_; (with_reducible refine (laws_big.calls _ _ l0 true _ ?side1 ?side2 A2.out).mono ?_); (case side1 => repeat (first | exact HR0.out | (with_reducible refine Kd.C_alloc ?_ _) | (with_reducible refine Kd.C_drewN ?_ _) | (with_reducible refine Kd.C_drew ?_))); (case side2 => exact HC0.out); rintro e w' ⟨rfl, ⟨nd, rfl⟩⟩; refine ⟨_, rfl, ?_⟩))
  go_ret
  exact ⟨by first | rfl | exact congrArg (fun b_ => Ending.returned (Value.bool b_)) HE_.out | (refine absurd HE_.out ?_; simp [*]; done) | (have h_ := HE_.out; clear HE_; simp_all; done) | (have h_ := HE_.out; clear HE_; simp_all; omega) | (simp [errW_none, errW_some] <;> rfl) | (simp [*, errW_none, errW_some] <;> rfl), bw HB⟩
 ·replace c3 := Bool.eq_false_iff.mpr c3
  subst c3
  have H1 : ((spec_DrawEnvSet.f k l0).bind fun bt377 => ((impl_EnvSet.f bt377.1 bt377.2.1 bt377.2.2.1 bt377.2.2.2.1 bt377.2.2.2.2.1 bt377.2.2.2.2.2.1 bt377.2.2.2.2.2.2.1 bt377.2.2.2.2.2.2.2.1 bt377.2.2.2.2.2.2.2.2).bind fun bt399 => ((spec_EnvSet.f k bt377.1 bt377.2.1 bt377.2.2.1 bt377.2.2.2.1 bt377.2.2.2.2.1 bt377.2.2.2.2.2.1 bt377.2.2.2.2.2.2.1 bt377.2.2.2.2.2.2.2.1 bt377.2.2.2.2.2.2.2.2).bind fun bt407 => ((laws_sameEnv.f k bt399.1 bt399.2.1 bt399.2.2 bt407.1 bt407.2.1 bt407.2.2).bind fun t414 => (if t414 = true then (laws_FnSet.j0 k bt377.2.2.2.2.2.2.1 (!bt399.1) bt377.1 bt377.2.1 bt377.2.2.1 bt377.2.2.2.1 bt377.2.2.2.2.1 bt377.2.2.2.2.2.1 bt377.2.2.2.2.2.2.2.1 bt377.2.2.2.2.2.2.2.2 bt399.1 bt399.2.1 bt399.2.2) else (laws_FnSet.j0 k bt377.2.2.2.2.2.2.1 true bt377.1 bt377.2.1 bt377.2.2.1 bt377.2.2.2.1 bt377.2.2.2.2.1 bt377.2.2.2.2.2.1 bt377.2.2.2.2.2.2.2.1 bt377.2.2.2.2.2.2.2.2 bt399.1 bt399.2.1 bt399.2.2)))))) = some true := by rw [if_neg (show ¬ (false = true) by decide)] at H; first | done | exact H
  clear H
  have H := H1
  clear H1
  replace H := Option.bind_eq_some_iff.mp H
  obtain ⟨⟨t377, t380, t383, t386, t387, t390, t393, t394, t395⟩, A40, H⟩ := H
  replace H : ((impl_EnvSet.f t377 t380 t383 t386 t387 t390 t393 t394 t395).bind fun bt399 => ((spec_EnvSet.f k t377 t380 t383 t386 t387 t390 t393 t394 t395).bind fun bt407 => ((laws_sameEnv.f k bt399.1 bt399.2.1 bt399.2.2 bt407.1 bt407.2.1 bt407.2.2).bind fun t414 => (if t414 = true then (laws_FnSet.j0 k t393 (!bt399.1) t377 t380 t383 t386 t387 t390 t394 t395 bt399.1 bt399.2.1 bt399.2.2) else (laws_FnSet.j0 k t393 true t377 t380 t383 t386 t387 t390 t394 t395 bt399.1 bt399.2.1 bt399.2.2))))) = some true := H
  have A4 := Aside0.mk A40
  clear A40
  replace H := Option.bind_eq_some_iff.mp H
  obtain ⟨⟨t399, t400, t403⟩, A50, H⟩ := H
  replace H : ((spec_EnvSet.f k t377 t380 t383 t386 t387 t390 t393 t394 t395).bind fun bt407 => ((laws_sameEnv.f k t399 t400 t403 bt407.1 bt407.2.1 bt407.2.2).bind fun t414 => (if t414 = true then (laws_FnSet.j0 k t393 (!t399) t377 t380 t383 t386 t387 t390 t394 t395 t399 t400 t403) else (laws_FnSet.j0 k t393 true t377 t380 t383 t386 t387 t390 t394 t395 t399 t400 t403)))) = some true := H
  have A5 := Aside0.mk A50
  clear A50
  have HC6 := Aside0.mk H
  clear H
  go_enter Tryd.func10, Tryd.ntmps10
  go_upto_region 5 with (first | ((with_reducible refine gate_callee (f := 44) rfl ?_); refine goesL_ (some 10) rfl rfl Tryd.func44 (by kernel_rfl) rfl #[.slice A0 l0.length c0] rfl (by (try simp only [List.map_toArray, List.map_cons, List.map_nil]); first | done | rfl | (simp only [List.length_drop, List.length_take]; rfl)) ?_; (with_reducible refine (laws_big.calls _ _ l0 false _ ?side1 ?side2 A2.out).mono ?_); (case side1 => repeat (first | exact HR0.out | (with_reducible refine Kd.C_alloc ?_ _) | (with_reducible refine Kd.C_drewN ?_ _) | (with_reducible refine Kd.C_drew ?_))); (case side2 => exact HC0.out); rintro e w' ⟨rfl, ⟨nd, rfl⟩⟩; refine ⟨_, rfl, ?_⟩) | ((with_reducible refine gate_callee (f := 45) rfl ?_); refine goesL_ (some 13) rfl rfl Tryd.func45 (by kernel_rfl) rfl #[.slice A0 l0.length c0] rfl (by (try simp only [List.map_toArray, List.map_cons, List.map_nil]); first | done | rfl | (simp only [List.length_drop, List.length_take]; rfl)) ?_; (with_reducible refine (spec_DrawEnvSet.calls k _ _ l0 t377 t380 t383 t386 t387 t390 t393 t394 t395 _ ?side1 ?side2 A4.out).mono ?_); (case side1 => repeat (first | exact HR0.out | (with_reducible refine Kd.C_alloc ?_ _) | (with_reducible refine Kd.C_drewN ?_ _) | (with_reducible refine Kd.C_drew ?_))); (case side2 => exact HC0.out); rintro e w7 ⟨v378, v381, v384, v388, v391, rfl, ho0, ho1, ho2, ho3, ho4, hb⟩; refine ⟨_, rfl, ?_⟩; have HO379 := Aside0.mk (Kd.R_lower ho0 (below_size (bw HB))); have HO382 := Aside0.mk (Kd.R_lower ho1 (below_size (bw HB))); have HO385 := Aside0.mk (Kd.R_lower ho2 (below_size (bw HB))); have HO389 := Aside0.mk (Kd.R_lower ho3 (below_size (bw HB))); have HO392 := Aside0.mk (Kd.R_lower ho4 (below_size (bw HB))); replace HB := bs HB hb; (try clear hb); (try clear hb2); (try clear hk); (try clear hi); (try clear ho0); (try clear ho1); (try clear ho2); (try clear ho3); (try clear ho4)) | ((with_reducible refine gate_dst (N := 3) rfl ?_); (try (refine gate_guard (by rfl) ?_; dsimp only)); refine box_event ?hg (N := 3) ?hd (cs := #[.slice none 0 0, .slice none 0 0, .slice none 0 0]) (t := 30) ?hr ?_; (case hd => rfl); (case hg => rfl); (case hr => first | (go_simp; done) | (go_simp; rfl)); intro gb396 hg w8 hbox hb; replace HO379 := Aside0.mk (Kd.R_below (by (with_reducible repeat (first | apply Kd.R_alloc | apply Kd.R_drewN | apply Kd.R_drew)); exact HO379.out) hb); replace HO382 := Aside0.mk (Kd.R_below (by (with_reducible repeat (first | apply Kd.R_alloc | apply Kd.R_drewN | apply Kd.R_drew)); exact HO382.out) hb); replace HO385 := Aside0.mk (Kd.R_below (by (with_reducible repeat (first | apply Kd.R_alloc | apply Kd.R_drewN | apply Kd.R_drew)); exact HO385.out) hb); replace HO389 := Aside0.mk (Kd.R_below (by (with_reducible repeat (first | apply Kd.R_alloc | apply Kd.R_drewN | apply Kd.R_drew)); exact HO389.out) hb); replace HO392 := Aside0.mk (Kd.R_below (by (with_reducible repeat (first | apply Kd.R_alloc | apply Kd.R_drewN | apply Kd.R_drew)); exact HO392.out) hb); have BK396 := Aside0.mk (hbox); have GW396 := bz HB hg; have GE396 := bz HB hg; replace HB := bs HB hb; clear hb hbox hg) | ((with_reducible refine gate_dst (N := 4) rfl ?_); (try (refine gate_guard (by rfl) ?_; dsimp only)); refine box_event ?hg (N := 4) ?hd (cs := #[.bool false, .slice none 0 0, .slice none 0 0]) (t := 41) ?hr ?_; (case hd => rfl); (case hg => rfl); (case hr => first | (go_simp; done) | (go_simp; rfl)); intro gb397 hg w9 hbox hb; replace HO379 := Aside0.mk (Kd.R_below (by (with_reducible repeat (first | apply Kd.R_alloc | apply Kd.R_drewN | apply Kd.R_drew)); exact HO379.out) hb); replace HO382 := Aside0.mk (Kd.R_below (by (with_reducible repeat (first | apply Kd.R_alloc | apply Kd.R_drewN | apply Kd.R_drew)); exact HO382.out) hb); replace HO385 := Aside0.mk (Kd.R_below (by (with_reducible repeat (first | apply Kd.R_alloc | apply Kd.R_drewN | apply Kd.R_drew)); exact HO385.out) hb); replace HO389 := Aside0.mk (Kd.R_below (by (with_reducible repeat (first | apply Kd.R_alloc | apply Kd.R_drewN | apply Kd.R_drew)); exact HO389.out) hb); replace HO392 := Aside0.mk (Kd.R_below (by (with_reducible repeat (first | apply Kd.R_alloc | apply Kd.R_drewN | apply Kd.R_drew)); exact HO392.out) hb); have BK397 := Aside0.mk (hbox); have GW397 := bz HB hg; have GE397 := bz HB hg; replace HB := bs HB hb; have NB396_397 := bl BK396 hg; have NB397_396 := bg BK396 hg; replace BK396 := bb BK396 hb; clear hb hbox hg) | ((with_reducible refine gate_dst (N := 6) rfl ?_); (try (refine gate_guard (by rfl) ?_; dsimp only)); refine box_event ?hg (N := 6) ?hd (cs := #[.int .i64 0, .int .i64 0]) (t := 78) ?hr ?_; (case hd => rfl); (case hg => rfl); (case hr => first | (go_simp; done) | (go_simp; rfl)); intro gb398 hg w10 hbox hb; replace HO379 := Aside0.mk (Kd.R_below (by (with_reducible repeat (first | apply Kd.R_alloc | apply Kd.R_drewN | apply Kd.R_drew)); exact HO379.out) hb); replace HO382 := Aside0.mk (Kd.R_below (by (with_reducible repeat (first | apply Kd.R_alloc | apply Kd.R_drewN | apply Kd.R_drew)); exact HO382.out) hb); replace HO385 := Aside0.mk (Kd.R_below (by (with_reducible repeat (first | apply Kd.R_alloc | apply Kd.R_drewN | apply Kd.R_drew)); exact HO385.out) hb); replace HO389 := Aside0.mk (Kd.R_below (Kd.R_elderB (by (with_reducible repeat (first | apply Kd.R_alloc | apply Kd.R_drewN | apply Kd.R_drew)); exact HO389.out) gb398 (Nat.le_of_eq hg.symm)) hb); replace HO392 := Aside0.mk (Kd.R_below (Kd.R_elderB (by (with_reducible repeat (first | apply Kd.R_alloc | apply Kd.R_drewN | apply Kd.R_drew)); exact HO392.out) gb398 (Nat.le_of_eq hg.symm)) hb); have BK398 := Aside0.mk (hbox); have GW398 := bz HB hg; have GE398 := bz HB hg; replace HB := bs HB hb; have NB396_398 := bl BK396 hg; have NB398_396 := bg BK396 hg; replace BK396 := bb BK396 hb; have NB397_398 := bl BK397 hg; have NB398_397 := bg BK397 hg; replace BK397 := bb BK397 hb; clear hb hbox hg; obtain ⟨Ao11, co11, eo11⟩ := Kd.R_slice HO379.out; subst eo11; have hnb12 := NB396_397.out; have hnc12 := NB397_396.out; have hnb13 := NB396_398.out; have hnc13 := NB398_396.out; have hcz14_0 : w10.cell? ⟨gb396, 0, none⟩ = some (.slice none 0 0) := (blk_cell BK396.out 0).trans rfl; have hcz14_1 : w10.cell? ⟨gb396, 1, none⟩ = some (.slice none 0 0) := (blk_cell BK396.out 1).trans rfl; have hcz14_2 : w10.cell? ⟨gb396, 2, none⟩ = some (.slice none 0 0) := (blk_cell BK396.out 2).trans rfl; have hfz14_0 := blk_frozen BK396.out 0; have hfz14_1 := blk_frozen BK396.out 1; have hfz14_2 := blk_frozen BK396.out 2; obtain ⟨Ao15, co15, eo15⟩ := Kd.R_slice HO382.out; subst eo15; obtain ⟨Ao16, co16, eo16⟩ := Kd.R_slice HO385.out; subst eo16; have hnb17 := NB397_398.out; have hnc17 := NB398_397.out; have hcz18_0 : w10.cell? ⟨gb397, 0, none⟩ = some (.bool false) := (blk_cell BK397.out 0).trans rfl; have hcz18_1 : w10.cell? ⟨gb397, 1, none⟩ = some (.slice none 0 0) := (blk_cell BK397.out 1).trans rfl; have hcz18_2 : w10.cell? ⟨gb397, 2, none⟩ = some (.slice none 0 0) := (blk_cell BK397.out 2).trans rfl; have hfz18_0 := blk_frozen BK397.out 0; have hfz18_1 := blk_frozen BK397.out 1; have hfz18_2 := blk_frozen BK397.out 2; obtain ⟨Ao19, co19, eo19⟩ := Kd.R_slice HO389.out; subst eo19; obtain ⟨Ao20, co20, eo20⟩ := Kd.R_slice HO392.out; subst eo20; have hcz21_0 : w10.cell? ⟨gb398, 0, none⟩ = some (.int .i64 0) := (blk_cell BK398.out 0).trans rfl; have hcz21_1 : w10.cell? ⟨gb398, 1, none⟩ = some (.int .i64 0) := (blk_cell BK398.out 1).trans rfl; have hfz21_0 := blk_frozen BK398.out 0; have hfz21_1 := blk_frozen BK398.out 1) | ((with_reducible refine gate_callee (f := 46) rfl ?_); refine goesL_ (some 22) rfl rfl Tryd.func46 (by kernel_rfl) rfl #[.agg #[.slice Ao11 t377.length co11, .slice Ao15 t380.length co15, .slice Ao16 t383.length co16], .agg #[.bool t386, .slice Ao19 t387.length co19, .slice Ao20 t390.length co20], .int .i64 t393, .agg #[.int .i64 t394, .int .i64 t395]] rfl (by (try simp only [List.map_toArray, List.map_cons, List.map_nil]); first | done | rfl | (simp only [List.length_drop, List.length_take]; rfl)) ?_; (with_reducible refine (impl_EnvSet.calls _ _ t377 _ _ t380 _ _ t383 t386 _ _ t387 _ _ t390 t393 t394 t395 t399 t400 t403 _ ?side1 ?side2 ?side3 ?side4 ?side5 ?side6 ?side7 ?side8 ?side9 ?side10 A5.out).mono ?_); (case side1 => refine (Kd.R_reads' (e := 9) (base := w.heap.size) (ok := fun k_ => some k_ ≠ (.slice Ao15 t380.length co15 : Value).ownBlock) (n := t377.length) (c := co11) ?_).2.2; exact (by (with_reducible repeat (first | apply Kd.R_alloc | apply Kd.R_drewN | apply Kd.R_drew)); exact (Kd.R_mono (Kd.R_mono (Kd.R_mono (Kd.R_far (p := ⟨gb398, 1, none⟩) (Kd.R_far (p := ⟨gb398, 0, none⟩) (Kd.R_far (p := ⟨gb397, 2, none⟩) (Kd.R_far (p := ⟨gb397, 1, none⟩) (Kd.R_far (p := ⟨gb397, 0, none⟩) (Kd.R_far (p := ⟨gb396, 2, none⟩) (Kd.R_far (p := ⟨gb396, 1, none⟩) (Kd.R_far (p := ⟨gb396, 0, none⟩) (Kd.R_types (Kd.R_types (Kd.R_types HO379.out BK396.out (by decide)) BK397.out (by decide)) BK398.out (by decide)) (fun _ hk => hk.1.1.2) (.slice Ao11 t377.length co11)) (fun _ hk => hk.1.1.2) (.slice Ao15 t380.length co15)) (fun _ hk => hk.1.1.2) (.slice Ao16 t383.length co16)) (fun _ hk => hk.1.2) (.bool t386)) (fun _ hk => hk.1.2) (.slice Ao19 t387.length co19)) (fun _ hk => hk.1.2) (.slice Ao20 t390.length co20)) (fun _ hk => hk.2) (.int .i64 t394)) (fun _ hk => hk.2) (.int .i64 t395)) (fun _ h_ => h_.1)) (fun _ h_ => h_.1)) (fun _ h_ => h_.1)))); (case side2 => exact (Kd.R_reads' HO379.out).2.1); (case side3 => refine (Kd.R_reads' (e := 9) (base := w.heap.size) (ok := fun k_ => some k_ ≠ (.slice Ao11 t377.length co11 : Value).ownBlock) (n := t380.length) (c := co15) ?_).2.2; exact (by (with_reducible repeat (first | apply Kd.R_alloc | apply Kd.R_drewN | apply Kd.R_drew)); exact (Kd.R_mono (Kd.R_mono (Kd.R_mono (Kd.R_far (p := ⟨gb398, 1, none⟩) (Kd.R_far (p := ⟨gb398, 0, none⟩) (Kd.R_far (p := ⟨gb397, 2, none⟩) (Kd.R_far (p := ⟨gb397, 1, none⟩) (Kd.R_far (p := ⟨gb397, 0, none⟩) (Kd.R_far (p := ⟨gb396, 2, none⟩) (Kd.R_far (p := ⟨gb396, 1, none⟩) (Kd.R_far (p := ⟨gb396, 0, none⟩) (Kd.R_types (Kd.R_types (Kd.R_types HO382.out BK396.out (by decide)) BK397.out (by decide)) BK398.out (by decide)) (fun _ hk => hk.1.1.2) (.slice Ao11 t377.length co11)) (fun _ hk => hk.1.1.2) (.slice Ao15 t380.length co15)) (fun _ hk => hk.1.1.2) (.slice Ao16 t383.length co16)) (fun _ hk => hk.1.2) (.bool t386)) (fun _ hk => hk.1.2) (.slice Ao19 t387.length co19)) (fun _ hk => hk.1.2) (.slice Ao20 t390.length co20)) (fun _ hk => hk.2) (.int .i64 t394)) (fun _ hk => hk.2) (.int .i64 t395)) (fun _ h_ => h_.1)) (fun _ h_ => h_.1)) (fun _ h_ => h_.1)))); (case side4 => exact (Kd.R_reads' HO382.out).2.1); (case side5 => refine (Kd.R_reads' (e := 91) (base := w.heap.size) (ok := fun k_ => True) (n := t383.length) (c := co16) ?_).2.2; exact (by (with_reducible repeat (first | apply Kd.R_alloc | apply Kd.R_drewN | apply Kd.R_drew)); exact (Kd.R_mono (Kd.R_mono (Kd.R_mono (Kd.R_far (p := ⟨gb398, 1, none⟩) (Kd.R_far (p := ⟨gb398, 0, none⟩) (Kd.R_far (p := ⟨gb397, 2, none⟩) (Kd.R_far (p := ⟨gb397, 1, none⟩) (Kd.R_far (p := ⟨gb397, 0, none⟩) (Kd.R_far (p := ⟨gb396, 2, none⟩) (Kd.R_far (p := ⟨gb396, 1, none⟩) (Kd.R_far (p := ⟨gb396, 0, none⟩) (Kd.R_types (Kd.R_types (Kd.R_types HO385.out BK396.out (by decide)) BK397.out (by decide)) BK398.out (by decide)) (fun _ hk => hk.1.1.2) (.slice Ao11 t377.length co11)) (fun _ hk => hk.1.1.2) (.slice Ao15 t380.length co15)) (fun _ hk => hk.1.1.2) (.slice Ao16 t383.length co16)) (fun _ hk => hk.1.2) (.bool t386)) (fun _ hk => hk.1.2) (.slice Ao19 t387.length co19)) (fun _ hk => hk.1.2) (.slice Ao20 t390.length co20)) (fun _ hk => hk.2) (.int .i64 t394)) (fun _ hk => hk.2) (.int .i64 t395)) (fun _ h_ => h_.1)) (fun _ h_ => h_.1)) (fun _ h_ => h_.1)))); (case side6 => exact (Kd.R_reads' HO385.out).2.1); (case side7 => refine (Kd.R_reads' (e := 78) (base := w.heap.size) (ok := fun k_ => (some k_ ≠ (.slice Ao20 t390.length co20 : Value).ownBlock ∧ k_ ≠ gb398)) (n := t387.length) (c := co19) ?_).2.2; exact (by (with_reducible repeat (first | apply Kd.R_alloc | apply Kd.R_drewN | apply Kd.R_drew)); exact (Kd.R_mono (Kd.R_mono (Kd.R_mono (Kd.R_far (p := ⟨gb398, 1, none⟩) (Kd.R_far (p := ⟨gb398, 0, none⟩) (Kd.R_far (p := ⟨gb397, 2, none⟩) (Kd.R_far (p := ⟨gb397, 1, none⟩) (Kd.R_far (p := ⟨gb397, 0, none⟩) (Kd.R_far (p := ⟨gb396, 2, none⟩) (Kd.R_far (p := ⟨gb396, 1, none⟩) (Kd.R_far (p := ⟨gb396, 0, none⟩) (Kd.R_mono (Kd.R_types (Kd.R_types HO389.out BK396.out (by decide)) BK397.out (by decide)) (fun k_ hk => (⟨hk, hk.1.1.2⟩ : _ ∧ k_ ≠ gb398))) (fun _ hk => hk.1.1.2) (.slice Ao11 t377.length co11)) (fun _ hk => hk.1.1.2) (.slice Ao15 t380.length co15)) (fun _ hk => hk.1.1.2) (.slice Ao16 t383.length co16)) (fun _ hk => hk.1.2) (.bool t386)) (fun _ hk => hk.1.2) (.slice Ao19 t387.length co19)) (fun _ hk => hk.1.2) (.slice Ao20 t390.length co20)) (fun _ hk => hk.2) (.int .i64 t394)) (fun _ hk => hk.2) (.int .i64 t395)) (fun _ h_ => h_.1)) (fun _ h_ => h_.1)) (fun _ h_ => h_.1)))); (case side8 => exact (Kd.R_reads' HO389.out).2.1); (case side9 => refine (Kd.R_reads' (e := 78) (base := w.heap.size) (ok := fun k_ => (some k_ ≠ (.slice Ao19 t387.length co19 : Value).ownBlock ∧ k_ ≠ gb398)) (n := t390.length) (c := co20) ?_).2.2; exact (by (with_reducible repeat (first | apply Kd.R_alloc | apply Kd.R_drewN | apply Kd.R_drew)); exact (Kd.R_mono (Kd.R_mono (Kd.R_mono (Kd.R_far (p := ⟨gb398, 1, none⟩) (Kd.R_far (p := ⟨gb398, 0, none⟩) (Kd.R_far (p := ⟨gb397, 2, none⟩) (Kd.R_far (p := ⟨gb397, 1, none⟩) (Kd.R_far (p := ⟨gb397, 0, none⟩) (Kd.R_far (p := ⟨gb396, 2, none⟩) (Kd.R_far (p := ⟨gb396, 1, none⟩) (Kd.R_far (p := ⟨gb396, 0, none⟩) (Kd.R_mono (Kd.R_types (Kd.R_types HO392.out BK396.out (by decide)) BK397.out (by decide)) (fun k_ hk => (⟨hk, hk.1.1.2⟩ : _ ∧ k_ ≠ gb398))) (fun _ hk => hk.1.1.2) (.slice Ao11 t377.length co11)) (fun _ hk => hk.1.1.2) (.slice Ao15 t380.length co15)) (fun _ hk => hk.1.1.2) (.slice Ao16 t383.length co16)) (fun _ hk => hk.1.2) (.bool t386)) (fun _ hk => hk.1.2) (.slice Ao19 t387.length co19)) (fun _ hk => hk.1.2) (.slice Ao20 t390.length co20)) (fun _ hk => hk.2) (.int .i64 t394)) (fun _ hk => hk.2) (.int .i64 t395)) (fun _ h_ => h_.1)) (fun _ h_ => h_.1)) (fun _ h_ => h_.1)))); (case side10 => exact (Kd.R_reads' HO392.out).2.1); rintro e w22 ⟨v401, v404, rfl, ho0, ho1, hb⟩; refine ⟨_, rfl, ?_⟩; replace HO379 := Aside0.mk (Kd.R_below (by (with_reducible repeat (first | apply Kd.R_alloc | apply Kd.R_drewN | apply Kd.R_drew)); exact (Kd.R_mono (Kd.R_mono (Kd.R_mono (Kd.R_far (p := ⟨gb398, 1, none⟩) (Kd.R_far (p := ⟨gb398, 0, none⟩) (Kd.R_far (p := ⟨gb397, 2, none⟩) (Kd.R_far (p := ⟨gb397, 1, none⟩) (Kd.R_far (p := ⟨gb397, 0, none⟩) (Kd.R_far (p := ⟨gb396, 2, none⟩) (Kd.R_far (p := ⟨gb396, 1, none⟩) (Kd.R_far (p := ⟨gb396, 0, none⟩) (Kd.R_types (Kd.R_types (Kd.R_types HO379.out BK396.out (by decide)) BK397.out (by decide)) BK398.out (by decide)) (fun _ hk => hk.1.1.2) (.slice Ao11 t377.length co11)) (fun _ hk => hk.1.1.2) (.slice Ao15 t380.length co15)) (fun _ hk => hk.1.1.2) (.slice Ao16 t383.length co16)) (fun _ hk => hk.1.2) (.bool t386)) (fun _ hk => hk.1.2) (.slice Ao19 t387.length co19)) (fun _ hk => hk.1.2) (.slice Ao20 t390.length co20)) (fun _ hk => hk.2) (.int .i64 t394)) (fun _ hk => hk.2) (.int .i64 t395)) (fun _ h_ => h_.1)) (fun _ h_ => h_.1)) (fun _ h_ => h_.1))) hb); replace HO382 := Aside0.mk (Kd.R_below (by (with_reducible repeat (first | apply Kd.R_alloc | apply Kd.R_drewN | apply Kd.R_drew)); exact (Kd.R_mono (Kd.R_mono (Kd.R_mono (Kd.R_far (p := ⟨gb398, 1, none⟩) (Kd.R_far (p := ⟨gb398, 0, none⟩) (Kd.R_far (p := ⟨gb397, 2, none⟩) (Kd.R_far (p := ⟨gb397, 1, none⟩) (Kd.R_far (p := ⟨gb397, 0, none⟩) (Kd.R_far (p := ⟨gb396, 2, none⟩) (Kd.R_far (p := ⟨gb396, 1, none⟩) (Kd.R_far (p := ⟨gb396, 0, none⟩) (Kd.R_types (Kd.R_types (Kd.R_types HO382.out BK396.out (by decide)) BK397.out (by decide)) BK398.out (by decide)) (fun _ hk => hk.1.1.2) (.slice Ao11 t377.length co11)) (fun _ hk => hk.1.1.2) (.slice Ao15 t380.length co15)) (fun _ hk => hk.1.1.2) (.slice Ao16 t383.length co16)) (fun _ hk => hk.1.2) (.bool t386)) (fun _ hk => hk.1.2) (.slice Ao19 t387.length co19)) (fun _ hk => hk.1.2) (.slice Ao20 t390.length co20)) (fun _ hk => hk.2) (.int .i64 t394)) (fun _ hk => hk.2) (.int .i64 t395)) (fun _ h_ => h_.1)) (fun _ h_ => h_.1)) (fun _ h_ => h_.1))) hb); replace HO385 := Aside0.mk (Kd.R_below (by (with_reducible repeat (first | apply Kd.R_alloc | apply Kd.R_drewN | apply Kd.R_drew)); exact (Kd.R_mono (Kd.R_mono (Kd.R_mono (Kd.R_far (p := ⟨gb398, 1, none⟩) (Kd.R_far (p := ⟨gb398, 0, none⟩) (Kd.R_far (p := ⟨gb397, 2, none⟩) (Kd.R_far (p := ⟨gb397, 1, none⟩) (Kd.R_far (p := ⟨gb397, 0, none⟩) (Kd.R_far (p := ⟨gb396, 2, none⟩) (Kd.R_far (p := ⟨gb396, 1, none⟩) (Kd.R_far (p := ⟨gb396, 0, none⟩) (Kd.R_types (Kd.R_types (Kd.R_types HO385.out BK396.out (by decide)) BK397.out (by decide)) BK398.out (by decide)) (fun _ hk => hk.1.1.2) (.slice Ao11 t377.length co11)) (fun _ hk => hk.1.1.2) (.slice Ao15 t380.length co15)) (fun _ hk => hk.1.1.2) (.slice Ao16 t383.length co16)) (fun _ hk => hk.1.2) (.bool t386)) (fun _ hk => hk.1.2) (.slice Ao19 t387.length co19)) (fun _ hk => hk.1.2) (.slice Ao20 t390.length co20)) (fun _ hk => hk.2) (.int .i64 t394)) (fun _ hk => hk.2) (.int .i64 t395)) (fun _ h_ => h_.1)) (fun _ h_ => h_.1)) (fun _ h_ => h_.1))) hb); have HO402 := Aside0.mk (Kd.R_lower (Kd.R_newB (Kd.R_new' (Kd.R_new' ho0 (Kd.R_lt (by (with_reducible repeat (first | apply Kd.R_alloc | apply Kd.R_drewN | apply Kd.R_drew)); exact (Kd.R_mono (Kd.R_mono (Kd.R_mono (Kd.R_far (p := ⟨gb398, 1, none⟩) (Kd.R_far (p := ⟨gb398, 0, none⟩) (Kd.R_far (p := ⟨gb397, 2, none⟩) (Kd.R_far (p := ⟨gb397, 1, none⟩) (Kd.R_far (p := ⟨gb397, 0, none⟩) (Kd.R_far (p := ⟨gb396, 2, none⟩) (Kd.R_far (p := ⟨gb396, 1, none⟩) (Kd.R_far (p := ⟨gb396, 0, none⟩) (Kd.R_mono (Kd.R_types (Kd.R_types HO389.out BK396.out (by decide)) BK397.out (by decide)) (fun k_ hk => (⟨hk, hk.1.1.2⟩ : _ ∧ k_ ≠ gb398))) (fun _ hk => hk.1.1.2) (.slice Ao11 t377.length co11)) (fun _ hk => hk.1.1.2) (.slice Ao15 t380.length co15)) (fun _ hk => hk.1.1.2) (.slice Ao16 t383.length co16)) (fun _ hk => hk.1.2) (.bool t386)) (fun _ hk => hk.1.2) (.slice Ao19 t387.length co19)) (fun _ hk => hk.1.2) (.slice Ao20 t390.length co20)) (fun _ hk => hk.2) (.int .i64 t394)) (fun _ hk => hk.2) (.int .i64 t395)) (fun _ h_ => h_.1)) (fun _ h_ => h_.1)) (fun _ h_ => h_.1))))) (Kd.R_lt (by (with_reducible repeat (first | apply Kd.R_alloc | apply Kd.R_drewN | apply Kd.R_drew)); exact (Kd.R_mono (Kd.R_mono (Kd.R_mono (Kd.R_far (p := ⟨gb398, 1, none⟩) (Kd.R_far (p := ⟨gb398, 0, none⟩) (Kd.R_far (p := ⟨gb397, 2, none⟩) (Kd.R_far (p := ⟨gb397, 1, none⟩) (Kd.R_far (p := ⟨gb397, 0, none⟩) (Kd.R_far (p := ⟨gb396, 2, none⟩) (Kd.R_far (p := ⟨gb396, 1, none⟩) (Kd.R_far (p := ⟨gb396, 0, none⟩) (Kd.R_mono (Kd.R_types (Kd.R_types HO392.out BK396.out (by decide)) BK397.out (by decide)) (fun k_ hk => (⟨hk, hk.1.1.2⟩ : _ ∧ k_ ≠ gb398))) (fun _ hk => hk.1.1.2) (.slice Ao11 t377.length co11)) (fun _ hk => hk.1.1.2) (.slice Ao15 t380.length co15)) (fun _ hk => hk.1.1.2) (.slice Ao16 t383.length co16)) (fun _ hk => hk.1.2) (.bool t386)) (fun _ hk => hk.1.2) (.slice Ao19 t387.length co19)) (fun _ hk => hk.1.2) (.slice Ao20 t390.length co20)) (fun _ hk => hk.2) (.int .i64 t394)) (fun _ hk => hk.2) (.int .i64 t395)) (fun _ h_ => h_.1)) (fun _ h_ => h_.1)) (fun _ h_ => h_.1))))) (g := gb398) (o := .cells #[.int .i64 t394, .int .i64 t395] 78 (0, 0)) (by (with_reducible repeat (first | refine blk_drewN ?_ _ | refine blk_drew ?_ | refine blk_alloc ?_ _)); refine blk_put (cs := #[.int .i64 t394, .int .i64 0]) ?_ 1 _ rfl; (with_reducible repeat (first | refine blk_drewN ?_ _ | refine blk_drew ?_ | refine blk_alloc ?_ _)); refine blk_put (cs := #[.int .i64 0, .int .i64 0]) ?_ 0 _ rfl; (with_reducible repeat (first | refine blk_drewN ?_ _ | refine blk_drew ?_ | refine blk_alloc ?_ _)); refine blk_far ?_ NB398_397.out _; (with_reducible repeat (first | refine blk_drewN ?_ _ | refine blk_drew ?_ | refine blk_alloc ?_ _)); refine blk_far ?_ NB398_397.out _; (with_reducible repeat (first | refine blk_drewN ?_ _ | refine blk_drew ?_ | refine blk_alloc ?_ _)); refine blk_far ?_ NB398_397.out _; (with_reducible repeat (first | refine blk_drewN ?_ _ | refine blk_drew ?_ | refine blk_alloc ?_ _)); refine blk_far ?_ NB398_396.out _; (with_reducible repeat (first | refine blk_drewN ?_ _ | refine blk_drew ?_ | refine blk_alloc ?_ _)); refine blk_far ?_ NB398_396.out _; (with_reducible repeat (first | refine blk_drewN ?_ _ | refine blk_drew ?_ | refine blk_alloc ?_ _)); refine blk_far ?_ NB398_396.out _; (with_reducible repeat (first | refine blk_drewN ?_ _ | refine blk_drew ?_ | refine blk_alloc ?_ _)); exact BK398.out)) (below_size (bw HB))); have HO405 := Aside0.mk (Kd.R_lower (Kd.R_newB (Kd.R_new' (Kd.R_new' ho1 (Kd.R_lt (by (with_reducible repeat (first | apply Kd.R_alloc | apply Kd.R_drewN | apply Kd.R_drew)); exact (Kd.R_mono (Kd.R_mono (Kd.R_mono (Kd.R_far (p := ⟨gb398, 1, none⟩) (Kd.R_far (p := ⟨gb398, 0, none⟩) (Kd.R_far (p := ⟨gb397, 2, none⟩) (Kd.R_far (p := ⟨gb397, 1, none⟩) (Kd.R_far (p := ⟨gb397, 0, none⟩) (Kd.R_far (p := ⟨gb396, 2, none⟩) (Kd.R_far (p := ⟨gb396, 1, none⟩) (Kd.R_far (p := ⟨gb396, 0, none⟩) (Kd.R_mono (Kd.R_types (Kd.R_types HO389.out BK396.out (by decide)) BK397.out (by decide)) (fun k_ hk => (⟨hk, hk.1.1.2⟩ : _ ∧ k_ ≠ gb398))) (fun _ hk => hk.1.1.2) (.slice Ao11 t377.length co11)) (fun _ hk => hk.1.1.2) (.slice Ao15 t380.length co15)) (fun _ hk => hk.1.1.2) (.slice Ao16 t383.length co16)) (fun _ hk => hk.1.2) (.bool t386)) (fun _ hk => hk.1.2) (.slice Ao19 t387.length co19)) (fun _ hk => hk.1.2) (.slice Ao20 t390.length co20)) (fun _ hk => hk.2) (.int .i64 t394)) (fun _ hk => hk.2) (.int .i64 t395)) (fun _ h_ => h_.1)) (fun _ h_ => h_.1)) (fun _ h_ => h_.1))))) (Kd.R_lt (by (with_reducible repeat (first | apply Kd.R_alloc | apply Kd.R_drewN | apply Kd.R_drew)); exact (Kd.R_mono (Kd.R_mono (Kd.R_mono (Kd.R_far (p := ⟨gb398, 1, none⟩) (Kd.R_far (p := ⟨gb398, 0, none⟩) (Kd.R_far (p := ⟨gb397, 2, none⟩) (Kd.R_far (p := ⟨gb397, 1, none⟩) (Kd.R_far (p := ⟨gb397, 0, none⟩) (Kd.R_far (p := ⟨gb396, 2, none⟩) (Kd.R_far (p := ⟨gb396, 1, none⟩) (Kd.R_far (p := ⟨gb396, 0, none⟩) (Kd.R_mono (Kd.R_types (Kd.R_types HO392.out BK396.out (by decide)) BK397.out (by decide)) (fun k_ hk => (⟨hk, hk.1.1.2⟩ : _ ∧ k_ ≠ gb398))) (fun _ hk => hk.1.1.2) (.slice Ao11 t377.length co11)) (fun _ hk => hk.1.1.2) (.slice Ao15 t380.length co15)) (fun _ hk => hk.1.1.2) (.slice Ao16 t383.length co16)) (fun _ hk => hk.1.2) (.bool t386)) (fun _ hk => hk.1.2) (.slice Ao19 t387.length co19)) (fun _ hk => hk.1.2) (.slice Ao20 t390.length co20)) (fun _ hk => hk.2) (.int .i64 t394)) (fun _ hk => hk.2) (.int .i64 t395)) (fun _ h_ => h_.1)) (fun _ h_ => h_.1)) (fun _ h_ => h_.1))))) (g := gb398) (o := .cells #[.int .i64 t394, .int .i64 t395] 78 (0, 0)) (by (with_reducible repeat (first | refine blk_drewN ?_ _ | refine blk_drew ?_ | refine blk_alloc ?_ _)); refine blk_put (cs := #[.int .i64 t394, .int .i64 0]) ?_ 1 _ rfl; (with_reducible repeat (first | refine blk_drewN ?_ _ | refine blk_drew ?_ | refine blk_alloc ?_ _)); refine blk_put (cs := #[.int .i64 0, .int .i64 0]) ?_ 0 _ rfl; (with_reducible repeat (first | refine blk_drewN ?_ _ | refine blk_drew ?_ | refine blk_alloc ?_ _)); refine blk_far ?_ NB398_397.out _; (with_reducible repeat (first | refine blk_drewN ?_ _ | refine blk_drew ?_ | refine blk_alloc ?_ _)); refine blk_far ?_ NB398_397.out _; (with_reducible repeat (first | refine blk_drewN ?_ _ | refine blk_drew ?_ | refine blk_alloc ?_ _)); refine blk_far ?_ NB398_397.out _; (with_reducible repeat (first | refine blk_drewN ?_ _ | refine blk_drew ?_ | refine blk_alloc ?_ _)); refine blk_far ?_ NB398_396.out _; (with_reducible repeat (first | refine blk_drewN ?_ _ | refine blk_drew ?_ | refine blk_alloc ?_ _)); refine blk_far ?_ NB398_396.out _; (with_reducible repeat (first | refine blk_drewN ?_ _ | refine blk_drew ?_ | refine blk_alloc ?_ _)); refine blk_far ?_ NB398_396.out _; (with_reducible repeat (first | refine blk_drewN ?_ _ | refine blk_drew ?_ | refine blk_alloc ?_ _)); exact BK398.out)) (below_size (bw HB))); replace HO389 := Aside0.mk (Kd.R_mono (Kd.R_told (Kd.R_told (Kd.R_old (by (with_reducible repeat (first | apply Kd.R_alloc | apply Kd.R_drewN | apply Kd.R_drew)); exact (Kd.R_mono (Kd.R_mono (Kd.R_mono (Kd.R_far (p := ⟨gb398, 1, none⟩) (Kd.R_far (p := ⟨gb398, 0, none⟩) (Kd.R_far (p := ⟨gb397, 2, none⟩) (Kd.R_far (p := ⟨gb397, 1, none⟩) (Kd.R_far (p := ⟨gb397, 0, none⟩) (Kd.R_far (p := ⟨gb396, 2, none⟩) (Kd.R_far (p := ⟨gb396, 1, none⟩) (Kd.R_far (p := ⟨gb396, 0, none⟩) (Kd.R_mono (Kd.R_types (Kd.R_types HO389.out BK396.out (by decide)) BK397.out (by decide)) (fun k_ hk => (⟨hk, hk.1.1.2⟩ : _ ∧ k_ ≠ gb398))) (fun _ hk => hk.1.1.2) (.slice Ao11 t377.length co11)) (fun _ hk => hk.1.1.2) (.slice Ao15 t380.length co15)) (fun _ hk => hk.1.1.2) (.slice Ao16 t383.length co16)) (fun _ hk => hk.1.2) (.bool t386)) (fun _ hk => hk.1.2) (.slice Ao19 t387.length co19)) (fun _ hk => hk.1.2) (.slice Ao20 t390.length co20)) (fun _ hk => hk.2) (.int .i64 t394)) (fun _ hk => hk.2) (.int .i64 t395)) (fun _ h_ => h_.1)) (fun _ h_ => h_.1)) (fun _ h_ => h_.1))) hb) (Kd.R_base ho0)) (Kd.R_base ho1)) (fun _ h_ => h_.1)); replace HO392 := Aside0.mk (Kd.R_mono (Kd.R_told (Kd.R_told (Kd.R_old (by (with_reducible repeat (first | apply Kd.R_alloc | apply Kd.R_drewN | apply Kd.R_drew)); exact (Kd.R_mono (Kd.R_mono (Kd.R_mono (Kd.R_far (p := ⟨gb398, 1, none⟩) (Kd.R_far (p := ⟨gb398, 0, none⟩) (Kd.R_far (p := ⟨gb397, 2, none⟩) (Kd.R_far (p := ⟨gb397, 1, none⟩) (Kd.R_far (p := ⟨gb397, 0, none⟩) (Kd.R_far (p := ⟨gb396, 2, none⟩) (Kd.R_far (p := ⟨gb396, 1, none⟩) (Kd.R_far (p := ⟨gb396, 0, none⟩) (Kd.R_mono (Kd.R_types (Kd.R_types HO392.out BK396.out (by decide)) BK397.out (by decide)) (fun k_ hk => (⟨hk, hk.1.1.2⟩ : _ ∧ k_ ≠ gb398))) (fun _ hk => hk.1.1.2) (.slice Ao11 t377.length co11)) (fun _ hk => hk.1.1.2) (.slice Ao15 t380.length co15)) (fun _ hk => hk.1.1.2) (.slice Ao16 t383.length co16)) (fun _ hk => hk.1.2) (.bool t386)) (fun _ hk => hk.1.2) (.slice Ao19 t387.length co19)) (fun _ hk => hk.1.2) (.slice Ao20 t390.length co20)) (fun _ hk => hk.2) (.int .i64 t394)) (fun _ hk => hk.2) (.int .i64 t395)) (fun _ h_ => h_.1)) (fun _ h_ => h_.1)) (fun _ h_ => h_.1))) hb) (Kd.R_base ho0)) (Kd.R_base ho1)) (fun _ h_ => h_.1)); replace BK396 := Aside0.mk (blk_below (g := gb396) (o := .cells #[.slice Ao11 t377.length co11, .slice Ao15 t380.length co15, .slice Ao16 t383.length co16] 30 (0, 0)) (by (with_reducible repeat (first | refine blk_drewN ?_ _ | refine blk_drew ?_ | refine blk_alloc ?_ _)); refine blk_far ?_ NB396_398.out _; (with_reducible repeat (first | refine blk_drewN ?_ _ | refine blk_drew ?_ | refine blk_alloc ?_ _)); refine blk_far ?_ NB396_398.out _; (with_reducible repeat (first | refine blk_drewN ?_ _ | refine blk_drew ?_ | refine blk_alloc ?_ _)); refine blk_far ?_ NB396_397.out _; (with_reducible repeat (first | refine blk_drewN ?_ _ | refine blk_drew ?_ | refine blk_alloc ?_ _)); refine blk_far ?_ NB396_397.out _; (with_reducible repeat (first | refine blk_drewN ?_ _ | refine blk_drew ?_ | refine blk_alloc ?_ _)); refine blk_far ?_ NB396_397.out _; (with_reducible repeat (first | refine blk_drewN ?_ _ | refine blk_drew ?_ | refine blk_alloc ?_ _)); refine blk_put (cs := #[.slice Ao11 t377.length co11, .slice Ao15 t380.length co15, .slice none 0 0]) ?_ 2 _ rfl; (with_reducible repeat (first | refine blk_drewN ?_ _ | refine blk_drew ?_ | refine blk_alloc ?_ _)); refine blk_put (cs := #[.slice Ao11 t377.length co11, .slice none 0 0, .slice none 0 0]) ?_ 1 _ rfl; (with_reducible repeat (first | refine blk_drewN ?_ _ | refine blk_drew ?_ | refine blk_alloc ?_ _)); refine blk_put (cs := #[.slice none 0 0, .slice none 0 0, .slice none 0 0]) ?_ 0 _ rfl; (with_reducible repeat (first | refine blk_drewN ?_ _ | refine blk_drew ?_ | refine blk_alloc ?_ _)); exact BK396.out) hb); replace BK397 := Aside0.mk (blk_below (g := gb397) (o := .cells #[.bool t386, .slice Ao19 t387.length co19, .slice Ao20 t390.length co20] 41 (0, 0)) (by (with_reducible repeat (first | refine blk_drewN ?_ _ | refine blk_drew ?_ | refine blk_alloc ?_ _)); refine blk_far ?_ NB397_398.out _; (with_reducible repeat (first | refine blk_drewN ?_ _ | refine blk_drew ?_ | refine blk_alloc ?_ _)); refine blk_far ?_ NB397_398.out _; (with_reducible repeat (first | refine blk_drewN ?_ _ | refine blk_drew ?_ | refine blk_alloc ?_ _)); refine blk_put (cs := #[.bool t386, .slice Ao19 t387.length co19, .slice none 0 0]) ?_ 2 _ rfl; (with_reducible repeat (first | refine blk_drewN ?_ _ | refine blk_drew ?_ | refine blk_alloc ?_ _)); refine blk_put (cs := #[.bool t386, .slice none 0 0, .slice none 0 0]) ?_ 1 _ rfl; (with_reducible repeat (first | refine blk_drewN ?_ _ | refine blk_drew ?_ | refine blk_alloc ?_ _)); refine blk_put (cs := #[.bool false, .slice none 0 0, .slice none 0 0]) ?_ 0 _ rfl; (with_reducible repeat (first | refine blk_drewN ?_ _ | refine blk_drew ?_ | refine blk_alloc ?_ _)); refine blk_far ?_ NB397_396.out _; (with_reducible repeat (first | refine blk_drewN ?_ _ | refine blk_drew ?_ | refine blk_alloc ?_ _)); refine blk_far ?_ NB397_396.out _; (with_reducible repeat (first | refine blk_drewN ?_ _ | refine blk_drew ?_ | refine blk_alloc ?_ _)); refine blk_far ?_ NB397_396.out _; (with_reducible repeat (first | refine blk_drewN ?_ _ | refine blk_drew ?_ | refine blk_alloc ?_ _)); exact BK397.out) hb); replace BK398 := Aside0.mk (blk_below (g := gb398) (o := .cells #[.int .i64 t394, .int .i64 t395] 78 (0, 0)) (by (with_reducible repeat (first | refine blk_drewN ?_ _ | refine blk_drew ?_ | refine blk_alloc ?_ _)); refine blk_put (cs := #[.int .i64 t394, .int .i64 0]) ?_ 1 _ rfl; (with_reducible repeat (first | refine blk_drewN ?_ _ | refine blk_drew ?_ | refine blk_alloc ?_ _)); refine blk_put (cs := #[.int .i64 0, .int .i64 0]) ?_ 0 _ rfl; (with_reducible repeat (first | refine blk_drewN ?_ _ | refine blk_drew ?_ | refine blk_alloc ?_ _)); refine blk_far ?_ NB398_397.out _; (with_reducible repeat (first | refine blk_drewN ?_ _ | refine blk_drew ?_ | refine blk_alloc ?_ _)); refine blk_far ?_ NB398_397.out _; (with_reducible repeat (first | refine blk_drewN ?_ _ | refine blk_drew ?_ | refine blk_alloc ?_ _)); refine blk_far ?_ NB398_397.out _; (with_reducible repeat (first | refine blk_drewN ?_ _ | refine blk_drew ?_ | refine blk_alloc ?_ _)); refine blk_far ?_ NB398_396.out _; (with_reducible repeat (first | refine blk_drewN ?_ _ | refine blk_drew ?_ | refine blk_alloc ?_ _)); refine blk_far ?_ NB398_396.out _; (with_reducible repeat (first | refine blk_drewN ?_ _ | refine blk_drew ?_ | refine blk_alloc ?_ _)); refine blk_far ?_ NB398_396.out _; (with_reducible repeat (first | refine blk_drewN ?_ _ | refine blk_drew ?_ | refine blk_alloc ?_ _)); exact BK398.out) hb); replace HB := bs HB hb; (try clear hb); (try clear hb2); (try clear hk); (try clear hi); (try clear ho0); (try clear ho1)) | ((with_reducible refine gate_dst (N := 7) rfl ?_); (try (refine gate_guard (by rfl) ?_; dsimp only)); refine box_event ?hg (N := 7) ?hd (cs := #[.bool false, .slice none 0 0, .slice none 0 0]) (t := 41) ?hr ?_; (case hd => rfl); (case hg => rfl); (case hr => first | (go_simp; done) | (go_simp; rfl)); intro gb406 hg w23 hbox hb; replace HO379 := Aside0.mk (Kd.R_below (by (with_reducible repeat (first | apply Kd.R_alloc | apply Kd.R_drewN | apply Kd.R_drew)); exact HO379.out) hb); replace HO382 := Aside0.mk (Kd.R_below (by (with_reducible repeat (first | apply Kd.R_alloc | apply Kd.R_drewN | apply Kd.R_drew)); exact HO382.out) hb); replace HO385 := Aside0.mk (Kd.R_below (by (with_reducible repeat (first | apply Kd.R_alloc | apply Kd.R_drewN | apply Kd.R_drew)); exact HO385.out) hb); replace HO389 := Aside0.mk (Kd.R_below (by (with_reducible repeat (first | apply Kd.R_alloc | apply Kd.R_drewN | apply Kd.R_drew)); exact HO389.out) hb); replace HO392 := Aside0.mk (Kd.R_below (by (with_reducible repeat (first | apply Kd.R_alloc | apply Kd.R_drewN | apply Kd.R_drew)); exact HO392.out) hb); replace HO402 := Aside0.mk (Kd.R_below (by (with_reducible repeat (first | apply Kd.R_alloc | apply Kd.R_drewN | apply Kd.R_drew)); exact HO402.out) hb); replace HO405 := Aside0.mk (Kd.R_below (by (with_reducible repeat (first | apply Kd.R_alloc | apply Kd.R_drewN | apply Kd.R_drew)); exact HO405.out) hb); have BK406 := Aside0.mk (hbox); have GW406 := bz HB hg; have GE406 := bz HB hg; replace HB := bs HB hb; have NB396_406 := bl BK396 hg; have NB406_396 := bg BK396 hg; replace BK396 := bb BK396 hb; have NB397_406 := bl BK397 hg; have NB406_397 := bg BK397 hg; replace BK397 := bb BK397 hb; have NB398_406 := bl BK398 hg; have NB406_398 := bg BK398 hg; replace BK398 := bb BK398 hb; clear hb hbox hg; have hnb24 := NB406_396.out; have hnc24 := NB396_406.out; have hnb25 := NB406_397.out; have hnc25 := NB397_406.out; have hnb26 := NB406_398.out; have hnc26 := NB398_406.out; have hcz27_0 : w23.cell? ⟨gb406, 0, none⟩ = some (.bool false) := (blk_cell BK406.out 0).trans rfl; have hcz27_1 : w23.cell? ⟨gb406, 1, none⟩ = some (.slice none 0 0) := (blk_cell BK406.out 1).trans rfl; have hcz27_2 : w23.cell? ⟨gb406, 2, none⟩ = some (.slice none 0 0) := (blk_cell BK406.out 2).trans rfl; have hfz27_0 := blk_frozen BK406.out 0; have hfz27_1 := blk_frozen BK406.out 1; have hfz27_2 := blk_frozen BK406.out 2; obtain ⟨Ao28, co28, eo28⟩ := Kd.R_slice HO402.out; subst eo28; obtain ⟨Ao29, co29, eo29⟩ := Kd.R_slice HO405.out; subst eo29))
  (try simp only [Act.put, List.setIfInBounds_toArray, List.set_cons_zero, List.set_cons_succ])
  go_cut [35] (fun v35 wc => ∃ (kq : Nat) (x35_5 : Bool), v35 = .bool x35_5 ∧ Aside0 (laws_FnSet.j0 kq t393 x35_5 t377 t380 t383 t386 t387 t390 t394 t395 t399 t400 t403 = some true) ∧ Aside0 (kq ≤ k) ∧ Aside0 (Kd.R Kd.string 9 wc w.heap.size (fun k_ => some k_ ≠ ((.slice Ao15 t380.length co15) : Value).ownBlock) (.slice Ao11 t377.length co11) t377) ∧ Aside0 (Kd.R Kd.string 9 wc w.heap.size (fun k_ => some k_ ≠ ((.slice Ao11 t377.length co11) : Value).ownBlock) (.slice Ao15 t380.length co15) t380) ∧ Aside0 (Kd.R k91 91 wc w.heap.size (fun _ => True) (.slice Ao16 t383.length co16) t383) ∧ Aside0 (Kd.R k78 78 wc w.heap.size (fun k_ => some k_ ≠ ((.slice Ao20 t390.length co20) : Value).ownBlock ∧ some k_ ≠ ((.slice Ao28 t400.length co28) : Value).ownBlock ∧ some k_ ≠ ((.slice Ao29 t403.length co29) : Value).ownBlock ∧ k_ ≠ gb398) (.slice Ao19 t387.length co19) t387) ∧ Aside0 (Kd.R k78 78 wc w.heap.size (fun k_ => some k_ ≠ ((.slice Ao19 t387.length co19) : Value).ownBlock ∧ some k_ ≠ ((.slice Ao28 t400.length co28) : Value).ownBlock ∧ some k_ ≠ ((.slice Ao29 t403.length co29) : Value).ownBlock ∧ k_ ≠ gb398) (.slice Ao20 t390.length co20) t390) ∧ Aside0 (Kd.R k78 78 wc w.heap.size (fun k_ => some k_ ≠ ((.slice Ao19 t387.length co19) : Value).ownBlock ∧ some k_ ≠ ((.slice Ao20 t390.length co20) : Value).ownBlock ∧ some k_ ≠ ((.slice Ao29 t403.length co29) : Value).ownBlock ∧ k_ ≠ gb398) (.slice Ao28 t400.length co28) t400) ∧ Aside0 (Kd.R k78 78 wc w.heap.size (fun k_ => some k_ ≠ ((.slice Ao19 t387.length co19) : Value).ownBlock ∧ some k_ ≠ ((.slice Ao20 t390.length co20) : Value).ownBlock ∧ some k_ ≠ ((.slice Ao28 t400.length co28) : Value).ownBlock ∧ k_ ≠ gb398) (.slice Ao29 t403.length co29) t403) ∧ Aside0 (wc.heap[gb396]? = some (.cells #[(.slice Ao11 t377.length co11), (.slice Ao15 t380.length co15), (.slice Ao16 t383.length co16)] 30 (0, 0))) ∧ Aside0 (wc.heap[gb397]? = some (.cells #[.bool t386, (.slice Ao19 t387.length co19), (.slice Ao20 t390.length co20)] 41 (0, 0))) ∧ Aside0 (wc.heap[gb398]? = some (.cells #[.int .i64 t394, .int .i64 t395] 78 (0, 0))) ∧ Aside0 (wc.heap[gb406]? = some (.cells #[.bool t399, (.slice Ao28 t400.length co28), (.slice Ao29 t403.length co29)] 41 (0, 0))) ∧ Aside0 (Below w.heap.size w wc))
  case first =>
   have H := HC6.out
   clear HC6
   replace H := Option.bind_eq_some_iff.mp H
   obtain ⟨⟨t407, t408, t411⟩, A300, H⟩ := H
   replace H : ((laws_sameEnv.f k t399 t400 t403 t407 t408 t411).bind fun t414 => (if t414 = true then (laws_FnSet.j0 k t393 (!t399) t377 t380 t383 t386 t387 t390 t394 t395 t399 t400 t403) else (laws_FnSet.j0 k t393 true t377 t380 t383 t386 t387 t390 t394 t395 t399 t400 t403))) = some true := H
   have A30 := Aside0.mk A300
   clear A300
   replace H := Option.bind_eq_some_iff.mp H
   obtain ⟨t414, A310, H⟩ := H
   replace H : (if t414 = true then (laws_FnSet.j0 k t393 (!t399) t377 t380 t383 t386 t387 t390 t394 t395 t399 t400 t403) else (laws_FnSet.j0 k t393 true t377 t380 t383 t386 t387 t390 t394 t395 t399 t400 t403)) = some true := H
   have A31 := Aside0.mk A310
   clear A310
   by_cases c32 : t414 = true
   ·subst c32
    have H1 : (laws_FnSet.j0 k t393 (!t399) t377 t380 t383 t386 t387 t390 t394 t395 t399 t400 t403) = some true := by rw [if_pos rfl] at H; first | done | exact H
    clear H
    have H := H1
    clear H1
    have H' := Aside0.mk H
    clear H
    try go_wp2
    have n0_ : Aside0 (Kd.R Kd.string 9 (((w23.setCell ⟨gb406, 0, none⟩ (.bool t399)).setCell ⟨gb406, 1, none⟩ (.slice Ao28 t400.length co28)).setCell ⟨gb406, 2, none⟩ (.slice Ao29 t403.length co29)) w.heap.size (fun k_ => some k_ ≠ (.slice Ao15 t380.length co15 : Value).ownBlock) (.slice Ao11 t377.length co11) t377) := ⟨by (with_reducible repeat (first | apply Kd.R_alloc | apply Kd.R_drewN | apply Kd.R_drew)); exact Kd.R_mono (Kd.R_far (p := ⟨gb406, 2, none⟩) (Kd.R_far (p := ⟨gb406, 1, none⟩) (Kd.R_far (p := ⟨gb406, 0, none⟩) (Kd.R_types HO379.out BK406.out (by decide)) (fun _ hk => hk.2) (.bool t399)) (fun _ hk => hk.2) (.slice Ao28 t400.length co28)) (fun _ hk => hk.2) (.slice Ao29 t403.length co29)) (fun _ hk => hk.1)⟩
    have n1_ : Aside0 (Kd.R Kd.string 9 (((w23.setCell ⟨gb406, 0, none⟩ (.bool t399)).setCell ⟨gb406, 1, none⟩ (.slice Ao28 t400.length co28)).setCell ⟨gb406, 2, none⟩ (.slice Ao29 t403.length co29)) w.heap.size (fun k_ => some k_ ≠ (.slice Ao11 t377.length co11 : Value).ownBlock) (.slice Ao15 t380.length co15) t380) := ⟨by (with_reducible repeat (first | apply Kd.R_alloc | apply Kd.R_drewN | apply Kd.R_drew)); exact Kd.R_mono (Kd.R_far (p := ⟨gb406, 2, none⟩) (Kd.R_far (p := ⟨gb406, 1, none⟩) (Kd.R_far (p := ⟨gb406, 0, none⟩) (Kd.R_types HO382.out BK406.out (by decide)) (fun _ hk => hk.2) (.bool t399)) (fun _ hk => hk.2) (.slice Ao28 t400.length co28)) (fun _ hk => hk.2) (.slice Ao29 t403.length co29)) (fun _ hk => hk.1)⟩
    have n2_ : Aside0 (Kd.R k91 91 (((w23.setCell ⟨gb406, 0, none⟩ (.bool t399)).setCell ⟨gb406, 1, none⟩ (.slice Ao28 t400.length co28)).setCell ⟨gb406, 2, none⟩ (.slice Ao29 t403.length co29)) w.heap.size (fun _ => True) (.slice Ao16 t383.length co16) t383) := ⟨by (with_reducible repeat (first | apply Kd.R_alloc | apply Kd.R_drewN | apply Kd.R_drew)); exact Kd.R_mono (Kd.R_far (p := ⟨gb406, 2, none⟩) (Kd.R_far (p := ⟨gb406, 1, none⟩) (Kd.R_far (p := ⟨gb406, 0, none⟩) (Kd.R_types HO385.out BK406.out (by decide)) (fun _ hk => hk.2) (.bool t399)) (fun _ hk => hk.2) (.slice Ao28 t400.length co28)) (fun _ hk => hk.2) (.slice Ao29 t403.length co29)) (fun _ hk => trivial)⟩
    have n3_ : Aside0 (Kd.R k78 78 (((w23.setCell ⟨gb406, 0, none⟩ (.bool t399)).setCell ⟨gb406, 1, none⟩ (.slice Ao28 t400.length co28)).setCell ⟨gb406, 2, none⟩ (.slice Ao29 t403.length co29)) w.heap.size (fun k_ => some k_ ≠ (.slice Ao20 t390.length co20 : Value).ownBlock ∧ some k_ ≠ (.slice Ao28 t400.length co28 : Value).ownBlock ∧ some k_ ≠ (.slice Ao29 t403.length co29 : Value).ownBlock ∧ k_ ≠ gb398) (.slice Ao19 t387.length co19) t387) := ⟨by (with_reducible repeat (first | apply Kd.R_alloc | apply Kd.R_drewN | apply Kd.R_drew)); exact Kd.R_mono (Kd.R_far (p := ⟨gb406, 2, none⟩) (Kd.R_far (p := ⟨gb406, 1, none⟩) (Kd.R_far (p := ⟨gb406, 0, none⟩) (Kd.R_types HO389.out BK406.out (by decide)) (fun _ hk => hk.2) (.bool t399)) (fun _ hk => hk.2) (.slice Ao28 t400.length co28)) (fun _ hk => hk.2) (.slice Ao29 t403.length co29)) (fun _ hk => ⟨hk.1.1.1.1, ⟨hk.1.1.2, ⟨hk.1.2, hk.1.1.1.2⟩⟩⟩)⟩
    have n4_ : Aside0 (Kd.R k78 78 (((w23.setCell ⟨gb406, 0, none⟩ (.bool t399)).setCell ⟨gb406, 1, none⟩ (.slice Ao28 t400.length co28)).setCell ⟨gb406, 2, none⟩ (.slice Ao29 t403.length co29)) w.heap.size (fun k_ => some k_ ≠ (.slice Ao19 t387.length co19 : Value).ownBlock ∧ some k_ ≠ (.slice Ao28 t400.length co28 : Value).ownBlock ∧ some k_ ≠ (.slice Ao29 t403.length co29 : Value).ownBlock ∧ k_ ≠ gb398) (.slice Ao20 t390.length co20) t390) := ⟨by (with_reducible repeat (first | apply Kd.R_alloc | apply Kd.R_drewN | apply Kd.R_drew)); exact Kd.R_mono (Kd.R_far (p := ⟨gb406, 2, none⟩) (Kd.R_far (p := ⟨gb406, 1, none⟩) (Kd.R_far (p := ⟨gb406, 0, none⟩) (Kd.R_types HO392.out BK406.out (by decide)) (fun _ hk => hk.2) (.bool t399)) (fun _ hk => hk.2) (.slice Ao28 t400.length co28)) (fun _ hk => hk.2) (.slice Ao29 t403.length co29)) (fun _ hk => ⟨hk.1.1.1.1, ⟨hk.1.1.2, ⟨hk.1.2, hk.1.1.1.2⟩⟩⟩)⟩
    have n5_ : Aside0 (Kd.R k78 78 (((w23.setCell ⟨gb406, 0, none⟩ (.bool t399)).setCell ⟨gb406, 1, none⟩ (.slice Ao28 t400.length co28)).setCell ⟨gb406, 2, none⟩ (.slice Ao29 t403.length co29)) w.heap.size (fun k_ => some k_ ≠ (.slice Ao19 t387.length co19 : Value).ownBlock ∧ some k_ ≠ (.slice Ao20 t390.length co20 : Value).ownBlock ∧ some k_ ≠ (.slice Ao29 t403.length co29 : Value).ownBlock ∧ k_ ≠ gb398) (.slice Ao28 t400.length co28) t400) := ⟨by (with_reducible repeat (first | apply Kd.R_alloc | apply Kd.R_drewN | apply Kd.R_drew)); exact Kd.R_mono (Kd.R_far (p := ⟨gb406, 2, none⟩) (Kd.R_far (p := ⟨gb406, 1, none⟩) (Kd.R_far (p := ⟨gb406, 0, none⟩) (Kd.R_types HO402.out BK406.out (by decide)) (fun _ hk => hk.2) (.bool t399)) (fun _ hk => hk.2) (.slice Ao28 t400.length co28)) (fun _ hk => hk.2) (.slice Ao29 t403.length co29)) (fun _ hk => ⟨hk.1.1.1.2, ⟨hk.1.1.2, ⟨hk.1.1.1.1, hk.1.2⟩⟩⟩)⟩
    have n6_ : Aside0 (Kd.R k78 78 (((w23.setCell ⟨gb406, 0, none⟩ (.bool t399)).setCell ⟨gb406, 1, none⟩ (.slice Ao28 t400.length co28)).setCell ⟨gb406, 2, none⟩ (.slice Ao29 t403.length co29)) w.heap.size (fun k_ => some k_ ≠ (.slice Ao19 t387.length co19 : Value).ownBlock ∧ some k_ ≠ (.slice Ao20 t390.length co20 : Value).ownBlock ∧ some k_ ≠ (.slice Ao28 t400.length co28 : Value).ownBlock ∧ k_ ≠ gb398) (.slice Ao29 t403.length co29) t403) := ⟨by (with_reducible repeat (first | apply Kd.R_alloc | apply Kd.R_drewN | apply Kd.R_drew)); exact Kd.R_mono (Kd.R_far (p := ⟨gb406, 2, none⟩) (Kd.R_far (p := ⟨gb406, 1, none⟩) (Kd.R_far (p := ⟨gb406, 0, none⟩) (Kd.R_types HO405.out BK406.out (by decide)) (fun _ hk => hk.2) (.bool t399)) (fun _ hk => hk.2) (.slice Ao28 t400.length co28)) (fun _ hk => hk.2) (.slice Ao29 t403.length co29)) (fun _ hk => ⟨hk.1.1.1.2, ⟨hk.1.1.2, ⟨hk.1.1.1.1, hk.1.2⟩⟩⟩)⟩
    have n7_ : Aside0 ((((w23.setCell ⟨gb406, 0, none⟩ (.bool t399)).setCell ⟨gb406, 1, none⟩ (.slice Ao28 t400.length co28)).setCell ⟨gb406, 2, none⟩ (.slice Ao29 t403.length co29)).heap[gb396]? = some (.cells #[.slice Ao11 t377.length co11, .slice Ao15 t380.length co15, .slice Ao16 t383.length co16] 30 (0, 0))) := ⟨bx BK396⟩
    have n8_ : Aside0 ((((w23.setCell ⟨gb406, 0, none⟩ (.bool t399)).setCell ⟨gb406, 1, none⟩ (.slice Ao28 t400.length co28)).setCell ⟨gb406, 2, none⟩ (.slice Ao29 t403.length co29)).heap[gb397]? = some (.cells #[.bool t386, .slice Ao19 t387.length co19, .slice Ao20 t390.length co20] 41 (0, 0))) := ⟨bx BK397⟩
    have n9_ : Aside0 ((((w23.setCell ⟨gb406, 0, none⟩ (.bool t399)).setCell ⟨gb406, 1, none⟩ (.slice Ao28 t400.length co28)).setCell ⟨gb406, 2, none⟩ (.slice Ao29 t403.length co29)).heap[gb398]? = some (.cells #[.int .i64 t394, .int .i64 t395] 78 (0, 0))) := ⟨bx BK398⟩
    have n10_ : Aside0 ((((w23.setCell ⟨gb406, 0, none⟩ (.bool t399)).setCell ⟨gb406, 1, none⟩ (.slice Ao28 t400.length co28)).setCell ⟨gb406, 2, none⟩ (.slice Ao29 t403.length co29)).heap[gb406]? = some (.cells #[.bool t399, .slice Ao28 t400.length co28, .slice Ao29 t403.length co29] 41 (0, 0))) := ⟨by (with_reducible repeat (first | refine blk_drewN ?_ _ | refine blk_drew ?_ | refine blk_alloc ?_ _)); refine blk_put (cs := #[.bool t399, .slice Ao28 t400.length co28, .slice none 0 0]) ?_ 2 _ rfl; (with_reducible repeat (first | refine blk_drewN ?_ _ | refine blk_drew ?_ | refine blk_alloc ?_ _)); refine blk_put (cs := #[.bool t399, .slice none 0 0, .slice none 0 0]) ?_ 1 _ rfl; (with_reducible repeat (first | refine blk_drewN ?_ _ | refine blk_drew ?_ | refine blk_alloc ?_ _)); refine blk_put (cs := #[.bool false, .slice none 0 0, .slice none 0 0]) ?_ 0 _ rfl; (with_reducible repeat (first | refine blk_drewN ?_ _ | refine blk_drew ?_ | refine blk_alloc ?_ _)); exact BK406.out⟩
    have n11_ : Aside0 (Below w.heap.size w (((w23.setCell ⟨gb406, 0, none⟩ (.bool t399)).setCell ⟨gb406, 1, none⟩ (.slice Ao28 t400.length co28)).setCell ⟨gb406, 2, none⟩ (.slice Ao29 t403.length co29))) := ⟨bw HB⟩
    (try clear HO379)
    (try clear HO382)
    (try clear HO385)
    (try clear HO389)
    (try clear HO392)
    (try clear HO402)
    (try clear HO405)
    (try clear BK396)
    (try clear BK397)
    (try clear BK398)
    (try clear BK406)
    (try clear HB)
    generalize (((w23.setCell ⟨gb406, 0, none⟩ (.bool t399)).setCell ⟨gb406, 1, none⟩ (.slice Ao28 t400.length co28)).setCell ⟨gb406, 2, none⟩ (.slice Ao29 t403.length co29)) = w33 at n0_ n1_ n2_ n3_ n4_ n5_ n6_ n7_ n8_ n9_ n10_ n11_ ⊢
    have HO379 := n0_
    have HO382 := n1_
    have HO385 := n2_
    have HO389 := n3_
    have HO392 := n4_
    have HO402 := n5_
    have HO405 := n6_
    have BK396 := n7_
    have BK397 := n8_
    have BK398 := n9_
    have BK406 := n10_
    have HB := n11_
    clear n0_ n1_ n2_ n3_ n4_ n5_ n6_ n7_ n8_ n9_ n10_ n11_
    have n0_ := Aside0.mk (Kd.R_drew HO379.out)
    have n1_ := Aside0.mk (Kd.R_drew HO382.out)
    have n2_ := Aside0.mk (Kd.R_drew HO385.out)
    have n3_ := Aside0.mk (Kd.R_drew HO389.out)
    have n4_ := Aside0.mk (Kd.R_drew HO392.out)
    have n5_ := Aside0.mk (Kd.R_drew HO402.out)
    have n6_ := Aside0.mk (Kd.R_drew HO405.out)
    have n7_ := Aside0.mk (blk_drew BK396.out)
    have n8_ := Aside0.mk (blk_drew BK397.out)
    have n9_ := Aside0.mk (blk_drew BK398.out)
    have n10_ := Aside0.mk (blk_drew BK406.out)
    have n11_ := Aside0.mk (below_drew1 HB.out)
    clear HO379
    clear HO382
    clear HO385
    clear HO389
    clear HO392
    clear HO402
    clear HO405
    clear BK396
    clear BK397
    clear BK398
    clear BK406
    clear HB
    have HO379 := n0_
    have HO382 := n1_
    have HO385 := n2_
    have HO389 := n3_
    have HO392 := n4_
    have HO402 := n5_
    have HO405 := n6_
    have BK396 := n7_
    have BK397 := n8_
    have BK398 := n9_
    have BK406 := n10_
    have HB := n11_
    clear n0_ n1_ n2_ n3_ n4_ n5_ n6_ n7_ n8_ n9_ n10_ n11_
    refine start_ (n := 13) (S := fun w' => w'.cell? ⟨gb406, 0, none⟩ = some (.bool t399) ∧ w'.cell? ⟨gb406, 1, none⟩ = some (.slice Ao28 t400.length co28) ∧ w'.cell? ⟨gb406, 2, none⟩ = some (.slice Ao29 t403.length co29) ∧ w'.cell? ⟨gb396, 0, none⟩ = some (.slice Ao11 t377.length co11) ∧ w'.cell? ⟨gb396, 1, none⟩ = some (.slice Ao15 t380.length co15) ∧ w'.cell? ⟨gb396, 2, none⟩ = some (.slice Ao16 t383.length co16) ∧ w'.cell? ⟨gb397, 0, none⟩ = some (.bool t386) ∧ w'.cell? ⟨gb397, 1, none⟩ = some (.slice Ao19 t387.length co19) ∧ w'.cell? ⟨gb397, 2, none⟩ = some (.slice Ao20 t390.length co20) ∧ w'.cell? ⟨gb398, 0, none⟩ = some (.int .i64 t394) ∧ w'.cell? ⟨gb398, 1, none⟩ = some (.int .i64 t395)) (ds := []) #[false, false, false, false, false, false, false, false, false, false, false, false, false] (by kernel_rfl) rfl rfl ⟨(blk_cell BK406.out 0).trans rfl, (blk_cell BK406.out 1).trans rfl, (blk_cell BK406.out 2).trans rfl, (blk_cell BK396.out 0).trans rfl, (blk_cell BK396.out 1).trans rfl, (blk_cell BK396.out 2).trans rfl, (blk_cell BK397.out 0).trans rfl, (blk_cell BK397.out 1).trans rfl, (blk_cell BK397.out 2).trans rfl, (blk_cell BK398.out 0).trans rfl, (blk_cell BK398.out 1).trans rfl⟩ (fun hHeld => ?_); refine with_tabW laws_FnSet.tab5 laws_FnSet.bits5 (fun HT_ HW_ => ?_)
    generalize w33.drew = w34 at HO379 HO382 HO385 HO389 HO392 HO402 HO405 BK396 BK397 BK398 BK406 HB hHeld ⊢
    refine pure_ (i := 3) (N := some 26) (v := ?_) (a' := ?_) #[false, false, false, true, false, false, false, false, false, false, false, false, false] rfl rfl (any_of HT_.out (by kernel_rfl)) (fun _ _ _ h => h) (Or.inl ⟨by rfl, ?_⟩) ?_ ?_
    rotate_left
    ·intro w'
     go_simp
     with_reducible rfl
    rotate_left
    ·simp only [Act.put, List.setIfInBounds_toArray, List.set_cons_zero, List.set_cons_succ, i64_w, i32_w]
     rfl
    refine take_ (i := 0) (N := some 23) (v := ?_) (a' := ?_) #[true, false, false, true, false, false, false, false, false, false, false, false, false] rfl rfl (take_ofW HT_.out HW_.out (by kernel_rfl)) (fun _ _ _ h => h) (Or.inl ⟨by rfl, ?_⟩) hHeld ?_ ?_
    rotate_left
    ·rintro w' ⟨s0, s1, s2, s3, s4, s5, s6, s7, s8, s9, s10⟩
     go_simp
     with_reducible rfl
    rotate_left
    ·simp only [Act.put, List.setIfInBounds_toArray, List.set_cons_zero, List.set_cons_succ, i64_w, i32_w]
     rfl
    refine take_ (i := 1) (N := some 24) (v := ?_) (a' := ?_) #[true, true, false, true, false, false, false, false, false, false, false, false, false] rfl rfl (take_ofW HT_.out HW_.out (by kernel_rfl)) (fun _ _ _ h => h) (Or.inl ⟨by rfl, ?_⟩) hHeld ?_ ?_
    rotate_left
    ·rintro w' ⟨s0, s1, s2, s3, s4, s5, s6, s7, s8, s9, s10⟩
     go_simp
     with_reducible rfl
    rotate_left
    ·simp only [Act.put, List.setIfInBounds_toArray, List.set_cons_zero, List.set_cons_succ, i64_w, i32_w]
     rfl
    refine take_ (i := 2) (N := some 25) (v := ?_) (a' := ?_) #[true, true, true, true, false, false, false, false, false, false, false, false, false] rfl rfl (take_ofW HT_.out HW_.out (by kernel_rfl)) (fun _ _ _ h => h) (Or.inl ⟨by rfl, ?_⟩) hHeld ?_ ?_
    rotate_left
    ·rintro w' ⟨s0, s1, s2, s3, s4, s5, s6, s7, s8, s9, s10⟩
     go_simp
     with_reducible rfl
    rotate_left
    ·simp only [Act.put, List.setIfInBounds_toArray, List.set_cons_zero, List.set_cons_succ, i64_w, i32_w]
     rfl
    refine take_ (i := 4) (N := some 27) (v := ?_) (a' := ?_) #[true, true, true, true, true, false, false, false, false, false, false, false, false] rfl rfl (take_ofW HT_.out HW_.out (by kernel_rfl)) (fun _ _ _ h => h) (Or.inl ⟨by rfl, ?_⟩) hHeld ?_ ?_
    rotate_left
    ·rintro w' ⟨s0, s1, s2, s3, s4, s5, s6, s7, s8, s9, s10⟩
     go_simp
     with_reducible rfl
    rotate_left
    ·simp only [Act.put, List.setIfInBounds_toArray, List.set_cons_zero, List.set_cons_succ, i64_w, i32_w]
     rfl
    refine one_ (i := 5) (N := some 28) #[true, true, true, true, true, true, false, false, false, false, false, false, false] rfl rfl (one_of HT_.out (by kernel_rfl)) (by decide) (fun K hK => ?_)
    refine goes_ Tryd.func48 (by kernel_rfl) rfl #[.agg #[.slice Ao11 t377.length co11, .slice Ao15 t380.length co15, .slice Ao16 t383.length co16], .agg #[.bool t386, .slice Ao19 t387.length co19, .slice Ao20 t390.length co20], .int .i64 t393, .agg #[.int .i64 t394, .int .i64 t395]] (by rfl) rfl rfl (by (try simp only [List.map_toArray, List.map_cons, List.map_nil]); first | done | rfl | (simp only [List.length_drop, List.length_take]; rfl)) ?_
    with_reducible refine (spec_EnvSet.calls k _ _ t377 _ _ t380 _ _ t383 t386 _ _ t387 _ _ t390 t393 t394 t395 t407 t408 t411 _ ?side1 ?side2 ?side3 ?side4 ?side5 ?side6 ?side7 ?side8 ?side9 ?side10 A30.out).mono ?_
    (case side1 => repeat (first | exact (Kd.R_reads' HO379.out).2.2 | (with_reducible refine Kd.C_alloc ?_ _) | (with_reducible refine Kd.C_drewN ?_ _) | (with_reducible refine Kd.C_drew ?_)))
    (case side2 => exact (Kd.R_reads' HO379.out).2.1)
    (case side3 => repeat (first | exact (Kd.R_reads' HO382.out).2.2 | (with_reducible refine Kd.C_alloc ?_ _) | (with_reducible refine Kd.C_drewN ?_ _) | (with_reducible refine Kd.C_drew ?_)))
    (case side4 => exact (Kd.R_reads' HO382.out).2.1)
    (case side5 => repeat (first | exact (Kd.R_reads' HO385.out).2.2 | (with_reducible refine Kd.C_alloc ?_ _) | (with_reducible refine Kd.C_drewN ?_ _) | (with_reducible refine Kd.C_drew ?_)))
    (case side6 => exact (Kd.R_reads' HO385.out).2.1)
    (case side7 => repeat (first | exact (Kd.R_reads' HO389.out).2.2 | (with_reducible refine Kd.C_alloc ?_ _) | (with_reducible refine Kd.C_drewN ?_ _) | (with_reducible refine Kd.C_drew ?_)))
    (case side8 => exact (Kd.R_reads' HO389.out).2.1)
    (case side9 => repeat (first | exact (Kd.R_reads' HO392.out).2.2 | (with_reducible refine Kd.C_alloc ?_ _) | (with_reducible refine Kd.C_drewN ?_ _) | (with_reducible refine Kd.C_drew ?_)))
    (case side10 => exact (Kd.R_reads' HO392.out).2.1)
    rintro e w35 ⟨v409, v412, rfl, ho0, ho1, hb⟩
    refine ⟨_, rfl, ?_⟩
    have n0_ := Aside0.mk (Kd.R_below (by (with_reducible repeat (first | apply Kd.R_alloc | apply Kd.R_drewN | apply Kd.R_drew)); exact HO379.out) hb)
    have n1_ := Aside0.mk (Kd.R_below (by (with_reducible repeat (first | apply Kd.R_alloc | apply Kd.R_drewN | apply Kd.R_drew)); exact HO382.out) hb)
    have n2_ := Aside0.mk (Kd.R_below (by (with_reducible repeat (first | apply Kd.R_alloc | apply Kd.R_drewN | apply Kd.R_drew)); exact HO385.out) hb)
    have n3_ := Aside0.mk (Kd.R_mono (Kd.R_told (Kd.R_told (Kd.R_old (by (with_reducible repeat (first | apply Kd.R_alloc | apply Kd.R_drewN | apply Kd.R_drew)); exact HO389.out) hb) (Kd.R_base ho0)) (Kd.R_base ho1)) (fun _ h_ => h_.1))
    have n4_ := Aside0.mk (Kd.R_mono (Kd.R_told (Kd.R_told (Kd.R_old (by (with_reducible repeat (first | apply Kd.R_alloc | apply Kd.R_drewN | apply Kd.R_drew)); exact HO392.out) hb) (Kd.R_base ho0)) (Kd.R_base ho1)) (fun _ h_ => h_.1))
    have n5_ := Aside0.mk (Kd.R_mono (Kd.R_told (Kd.R_told (Kd.R_old (by (with_reducible repeat (first | apply Kd.R_alloc | apply Kd.R_drewN | apply Kd.R_drew)); exact HO402.out) hb) (Kd.R_base ho0)) (Kd.R_base ho1)) (fun _ h_ => h_.1))
    have n6_ := Aside0.mk (Kd.R_mono (Kd.R_told (Kd.R_told (Kd.R_old (by (with_reducible repeat (first | apply Kd.R_alloc | apply Kd.R_drewN | apply Kd.R_drew)); exact HO405.out) hb) (Kd.R_base ho0)) (Kd.R_base ho1)) (fun _ h_ => h_.1))
    have n7_ := Aside0.mk (Kd.R_lower (Kd.R_newB (Kd.R_new' (Kd.R_new' (Kd.R_new' (Kd.R_new' ho0 (Kd.R_lt (by (with_reducible repeat (first | apply Kd.R_alloc | apply Kd.R_drewN | apply Kd.R_drew)); exact HO389.out))) (Kd.R_lt (by (with_reducible repeat (first | apply Kd.R_alloc | apply Kd.R_drewN | apply Kd.R_drew)); exact HO392.out))) (Kd.R_lt (by (with_reducible repeat (first | apply Kd.R_alloc | apply Kd.R_drewN | apply Kd.R_drew)); exact HO402.out))) (Kd.R_lt (by (with_reducible repeat (first | apply Kd.R_alloc | apply Kd.R_drewN | apply Kd.R_drew)); exact HO405.out))) (bk BK398)) (below_size (bw HB)))
    have n8_ := Aside0.mk (Kd.R_lower (Kd.R_newB (Kd.R_new' (Kd.R_new' (Kd.R_new' (Kd.R_new' ho1 (Kd.R_lt (by (with_reducible repeat (first | apply Kd.R_alloc | apply Kd.R_drewN | apply Kd.R_drew)); exact HO389.out))) (Kd.R_lt (by (with_reducible repeat (first | apply Kd.R_alloc | apply Kd.R_drewN | apply Kd.R_drew)); exact HO392.out))) (Kd.R_lt (by (with_reducible repeat (first | apply Kd.R_alloc | apply Kd.R_drewN | apply Kd.R_drew)); exact HO402.out))) (Kd.R_lt (by (with_reducible repeat (first | apply Kd.R_alloc | apply Kd.R_drewN | apply Kd.R_drew)); exact HO405.out))) (bk BK398)) (below_size (bw HB)))
    have n9_ := bb BK396 hb
    have n10_ := bb BK397 hb
    have n11_ := bb BK398 hb
    have n12_ := bb BK406 hb
    have n13_ := bs HB hb
    clear HO379
    clear HO382
    clear HO385
    clear HO389
    clear HO392
    clear HO402
    clear HO405
    clear BK396
    clear BK397
    clear BK398
    clear BK406
    clear HB
    have HO379 := n0_
    have HO382 := n1_
    have HO385 := n2_
    have HO389 := n3_
    have HO392 := n4_
    have HO402 := n5_
    have HO405 := n6_
    have HO410 := n7_
    have HO413 := n8_
    have BK396 := n9_
    have BK397 := n10_
    have BK398 := n11_
    have BK406 := n12_
    have HB := n13_
    clear n0_ n1_ n2_ n3_ n4_ n5_ n6_ n7_ n8_ n9_ n10_ n11_ n12_ n13_
    (try clear hb)
    (try clear hb2)
    (try clear hk)
    (try clear hi)
    (try clear ho0)
    (try clear ho1)
    obtain ⟨Ao36, co36, eo36⟩ := Kd.R_slice HO410.out
    (first | subst eo36 | (injection eo36 with f1_ f2_ f3_; have f4_ := f1_.symm; have f5_ := f3_.symm; clear f1_ f2_ f3_; subst f4_; subst f5_))
    obtain ⟨Ao37, co37, eo37⟩ := Kd.R_slice HO413.out
    (first | subst eo37 | (injection eo37 with f1_ f2_ f3_; have f4_ := f1_.symm; have f5_ := f3_.symm; clear f1_ f2_ f3_; subst f4_; subst f5_))
    refine hK.out _ _ ⟨(blk_cell BK406.out 0).trans rfl, (blk_cell BK406.out 1).trans rfl, (blk_cell BK406.out 2).trans rfl, (blk_cell BK396.out 0).trans rfl, (blk_cell BK396.out 1).trans rfl, (blk_cell BK396.out 2).trans rfl, (blk_cell BK397.out 0).trans rfl, (blk_cell BK397.out 1).trans rfl, (blk_cell BK397.out 2).trans rfl, (blk_cell BK398.out 0).trans rfl, (blk_cell BK398.out 1).trans rfl⟩ (fun hHeld => ?_)
    clear hK K
    refine norm_ (a' := ?_) ?_ ?_
    rotate_left
    ·show Act.put _ (some 28) _ = _
     simp only [Act.put, List.setIfInBounds_toArray, List.set_cons_zero, List.set_cons_succ, i64_w, i32_w]
     rfl
    refine one_ (i := 6) (N := some 29) #[true, true, true, true, true, true, true, false, false, false, false, false, false] rfl rfl (one_of HT_.out (by kernel_rfl)) (by decide) (fun K hK => ?_)
    refine goes_ Tryd.func47 (by kernel_rfl) rfl #[.agg #[.bool t399, .slice Ao28 t400.length co28, .slice Ao29 t403.length co29], .agg #[.bool t407, .slice Ao36 t408.length co36, .slice Ao37 t411.length co37]] (by rfl) rfl rfl (by (try simp only [List.map_toArray, List.map_cons, List.map_nil]); first | done | rfl | (simp only [List.length_drop, List.length_take]; rfl)) ?_
    with_reducible refine (laws_sameEnv.calls k t399 _ _ t400 _ _ t403 t407 _ _ t408 _ _ t411 true _ ?side1 ?side2 ?side3 ?side4 ?side5 ?side6 ?side7 ?side8 A31.out).mono ?_
    (case side1 => repeat (first | exact (Kd.R_reads' HO402.out).2.2 | (with_reducible refine Kd.C_alloc ?_ _) | (with_reducible refine Kd.C_drewN ?_ _) | (with_reducible refine Kd.C_drew ?_)))
    (case side2 => exact (Kd.R_reads' HO402.out).2.1)
    (case side3 => repeat (first | exact (Kd.R_reads' HO405.out).2.2 | (with_reducible refine Kd.C_alloc ?_ _) | (with_reducible refine Kd.C_drewN ?_ _) | (with_reducible refine Kd.C_drew ?_)))
    (case side4 => exact (Kd.R_reads' HO405.out).2.1)
    (case side5 => repeat (first | exact (Kd.R_reads' HO410.out).2.2 | (with_reducible refine Kd.C_alloc ?_ _) | (with_reducible refine Kd.C_drewN ?_ _) | (with_reducible refine Kd.C_drew ?_)))
    (case side6 => exact (Kd.R_reads' HO410.out).2.1)
    (case side7 => repeat (first | exact (Kd.R_reads' HO413.out).2.2 | (with_reducible refine Kd.C_alloc ?_ _) | (with_reducible refine Kd.C_drewN ?_ _) | (with_reducible refine Kd.C_drew ?_)))
    (case side8 => exact (Kd.R_reads' HO413.out).2.1)
    rintro e w38 ⟨rfl, hb⟩
    refine ⟨_, rfl, ?_⟩
    have n0_ := Aside0.mk (Kd.R_below (by (with_reducible repeat (first | apply Kd.R_alloc | apply Kd.R_drewN | apply Kd.R_drew)); exact HO379.out) hb)
    have n1_ := Aside0.mk (Kd.R_below (by (with_reducible repeat (first | apply Kd.R_alloc | apply Kd.R_drewN | apply Kd.R_drew)); exact HO382.out) hb)
    have n2_ := Aside0.mk (Kd.R_below (by (with_reducible repeat (first | apply Kd.R_alloc | apply Kd.R_drewN | apply Kd.R_drew)); exact HO385.out) hb)
    have n3_ := Aside0.mk (Kd.R_below (by (with_reducible repeat (first | apply Kd.R_alloc | apply Kd.R_drewN | apply Kd.R_drew)); exact HO389.out) hb)
    have n4_ := Aside0.mk (Kd.R_below (by (with_reducible repeat (first | apply Kd.R_alloc | apply Kd.R_drewN | apply Kd.R_drew)); exact HO392.out) hb)
    have n5_ := Aside0.mk (Kd.R_below (by (with_reducible repeat (first | apply Kd.R_alloc | apply Kd.R_drewN | apply Kd.R_drew)); exact HO402.out) hb)
    have n6_ := Aside0.mk (Kd.R_below (by (with_reducible repeat (first | apply Kd.R_alloc | apply Kd.R_drewN | apply Kd.R_drew)); exact HO405.out) hb)
    have n7_ := Aside0.mk (Kd.R_below (by (with_reducible repeat (first | apply Kd.R_alloc | apply Kd.R_drewN | apply Kd.R_drew)); exact HO410.out) hb)
    have n8_ := Aside0.mk (Kd.R_below (by (with_reducible repeat (first | apply Kd.R_alloc | apply Kd.R_drewN | apply Kd.R_drew)); exact HO413.out) hb)
    have n9_ := bb BK396 hb
    have n10_ := bb BK397 hb
    have n11_ := bb BK398 hb
    have n12_ := bb BK406 hb
    have n13_ := bs HB hb
    clear HO379
    clear HO382
    clear HO385
    clear HO389
    clear HO392
    clear HO402
    clear HO405
    clear HO410
    clear HO413
    clear BK396
    clear BK397
    clear BK398
    clear BK406
    clear HB
    have HO379 := n0_
    have HO382 := n1_
    have HO385 := n2_
    have HO389 := n3_
    have HO392 := n4_
    have HO402 := n5_
    have HO405 := n6_
    have HO410 := n7_
    have HO413 := n8_
    have BK396 := n9_
    have BK397 := n10_
    have BK398 := n11_
    have BK406 := n12_
    have HB := n13_
    clear n0_ n1_ n2_ n3_ n4_ n5_ n6_ n7_ n8_ n9_ n10_ n11_ n12_ n13_
    (try clear hb)
    (try clear hb2)
    (try clear hk)
    (try clear hi)
    refine hK.out _ _ ⟨(blk_cell BK406.out 0).trans rfl, (blk_cell BK406.out 1).trans rfl, (blk_cell BK406.out 2).trans rfl, (blk_cell BK396.out 0).trans rfl, (blk_cell BK396.out 1).trans rfl, (blk_cell BK396.out 2).trans rfl, (blk_cell BK397.out 0).trans rfl, (blk_cell BK397.out 1).trans rfl, (blk_cell BK397.out 2).trans rfl, (blk_cell BK398.out 0).trans rfl, (blk_cell BK398.out 1).trans rfl⟩ (fun hHeld => ?_)
    clear hK K
    refine norm_ (a' := ?_) ?_ ?_
    rotate_left
    ·show Act.put _ (some 29) _ = _
     simp only [Act.put, List.setIfInBounds_toArray, List.set_cons_zero, List.set_cons_succ, i64_w, i32_w]
     rfl
    refine pure_ (i := 7) (N := some 30) (v := ?_) (a' := ?_) #[true, true, true, true, true, true, true, true, false, false, false, false, false] rfl rfl (any_of HT_.out (by kernel_rfl)) (fun _ _ _ h => h) (Or.inl ⟨by rfl, ?_⟩) ?_ ?_
    rotate_left
    ·intro w'
     go_simp
     with_reducible rfl
    rotate_left
    ·simp only [Act.put, List.setIfInBounds_toArray, List.set_cons_zero, List.set_cons_succ, i64_w, i32_w]
     rfl
    refine pure_ (i := 8) (N := some 31) (v := ?_) (a' := ?_) #[true, true, true, true, true, true, true, true, true, false, false, false, false] rfl rfl (any_of HT_.out (by kernel_rfl)) (fun _ _ _ h => h) (Or.inl ⟨by rfl, ?_⟩) ?_ ?_
    rotate_left
    ·intro w'
     go_simp
     with_reducible rfl
    rotate_left
    ·simp only [Act.put, List.setIfInBounds_toArray, List.set_cons_zero, List.set_cons_succ, i64_w, i32_w]
     rfl
    refine pure_ (i := 9) (N := some 32) (v := ?_) (a' := ?_) #[true, true, true, true, true, true, true, true, true, true, false, false, false] rfl rfl (any_of HT_.out (by kernel_rfl)) (fun _ _ _ h => h) (Or.inl ⟨by rfl, ?_⟩) ?_ ?_
    rotate_left
    ·intro w'
     go_simp
     with_reducible rfl
    rotate_left
    ·simp only [Act.put, List.setIfInBounds_toArray, List.set_cons_zero, List.set_cons_succ, i64_w, i32_w]
     rfl
    refine take_ (i := 10) (N := some 33) (v := ?_) (a' := ?_) #[true, true, true, true, true, true, true, true, true, true, true, false, false] rfl rfl (take_ofW HT_.out HW_.out (by kernel_rfl)) (fun _ _ _ h => h) (Or.inl ⟨by rfl, ?_⟩) hHeld ?_ ?_
    rotate_left
    ·rintro w' ⟨s0, s1, s2, s3, s4, s5, s6, s7, s8, s9, s10⟩
     go_simp
     with_reducible rfl
    rotate_left
    ·simp only [Act.put, List.setIfInBounds_toArray, List.set_cons_zero, List.set_cons_succ, i64_w, i32_w]
     rfl
    refine pure_ (i := 11) (N := some 34) (v := ?_) (a' := ?_) #[true, true, true, true, true, true, true, true, true, true, true, true, false] rfl rfl (any_of HT_.out (by kernel_rfl)) (fun _ _ _ h => h) (Or.inl ⟨by rfl, ?_⟩) ?_ ?_
    rotate_left
    ·intro w'
     go_simp
     with_reducible rfl
    rotate_left
    ·simp only [Act.put, List.setIfInBounds_toArray, List.set_cons_zero, List.set_cons_succ, i64_w, i32_w]
     rfl
    refine pure_ (i := 12) (N := some 35) (v := ?_) (a' := ?_) #[true, true, true, true, true, true, true, true, true, true, true, true, true] rfl rfl (any_of HT_.out (by kernel_rfl)) (fun _ _ _ h => h) (Or.inl ⟨by rfl, ?_⟩) ?_ ?_
    rotate_left
    ·intro w'
     go_simp
     with_reducible rfl
    rotate_left
    ·simp only [Act.put, List.setIfInBounds_toArray, List.set_cons_zero, List.set_cons_succ, i64_w, i32_w]
     rfl
    refine done_ (done_of HT_.out (by kernel_rfl)) ?_
    try go_wp2
    go_meet
    case rel => exact ⟨_, (!t399), (by first | rfl | (simp; done) | (simp [*]; done)), H', ⟨by first | omega | exact Nat.le_refl _⟩, ⟨by (with_reducible repeat (first | apply Kd.R_alloc | apply Kd.R_drewN | apply Kd.R_drew)); exact HO379.out⟩, ⟨by (with_reducible repeat (first | apply Kd.R_alloc | apply Kd.R_drewN | apply Kd.R_drew)); exact HO382.out⟩, ⟨by (with_reducible repeat (first | apply Kd.R_alloc | apply Kd.R_drewN | apply Kd.R_drew)); exact HO385.out⟩, ⟨by (with_reducible repeat (first | apply Kd.R_alloc | apply Kd.R_drewN | apply Kd.R_drew)); exact Kd.R_mono HO389.out (fun _ hk => ⟨hk.1.1.1, ⟨hk.1.1.2.1, ⟨hk.1.1.2.2.1, hk.1.1.2.2.2⟩⟩⟩)⟩, ⟨by (with_reducible repeat (first | apply Kd.R_alloc | apply Kd.R_drewN | apply Kd.R_drew)); exact Kd.R_mono HO392.out (fun _ hk => ⟨hk.1.1.1, ⟨hk.1.1.2.1, ⟨hk.1.1.2.2.1, hk.1.1.2.2.2⟩⟩⟩)⟩, ⟨by (with_reducible repeat (first | apply Kd.R_alloc | apply Kd.R_drewN | apply Kd.R_drew)); exact Kd.R_mono HO402.out (fun _ hk => ⟨hk.1.1.1, ⟨hk.1.1.2.1, ⟨hk.1.1.2.2.1, hk.1.1.2.2.2⟩⟩⟩)⟩, ⟨by (with_reducible repeat (first | apply Kd.R_alloc | apply Kd.R_drewN | apply Kd.R_drew)); exact Kd.R_mono HO405.out (fun _ hk => ⟨hk.1.1.1, ⟨hk.1.1.2.1, ⟨hk.1.1.2.2.1, hk.1.1.2.2.2⟩⟩⟩)⟩, ⟨bx BK396⟩, ⟨bx BK397⟩, ⟨bx BK398⟩, ⟨bx BK406⟩, ⟨bw HB⟩⟩
   ·replace c32 := Bool.eq_false_iff.mpr c32
    subst c32
    have H1 : (laws_FnSet.j0 k t393 true t377 t380 t383 t386 t387 t390 t394 t395 t399 t400 t403) = some true := by rw [if_neg (show ¬ (false = true) by decide)] at H; first | done | exact H
    clear H
    have H := H1
    clear H1
    have H' := Aside0.mk H
    clear H
    try go_wp2
    have n0_ : Aside0 (Kd.R Kd.string 9 (((w23.setCell ⟨gb406, 0, none⟩ (.bool t399)).setCell ⟨gb406, 1, none⟩ (.slice Ao28 t400.length co28)).setCell ⟨gb406, 2, none⟩ (.slice Ao29 t403.length co29)) w.heap.size (fun k_ => some k_ ≠ (.slice Ao15 t380.length co15 : Value).ownBlock) (.slice Ao11 t377.length co11) t377) := ⟨by (with_reducible repeat (first | apply Kd.R_alloc | apply Kd.R_drewN | apply Kd.R_drew)); exact Kd.R_mono (Kd.R_far (p := ⟨gb406, 2, none⟩) (Kd.R_far (p := ⟨gb406, 1, none⟩) (Kd.R_far (p := ⟨gb406, 0, none⟩) (Kd.R_types HO379.out BK406.out (by decide)) (fun _ hk => hk.2) (.bool t399)) (fun _ hk => hk.2) (.slice Ao28 t400.length co28)) (fun _ hk => hk.2) (.slice Ao29 t403.length co29)) (fun _ hk => hk.1)⟩
    have n1_ : Aside0 (Kd.R Kd.string 9 (((w23.setCell ⟨gb406, 0, none⟩ (.bool t399)).setCell ⟨gb406, 1, none⟩ (.slice Ao28 t400.length co28)).setCell ⟨gb406, 2, none⟩ (.slice Ao29 t403.length co29)) w.heap.size (fun k_ => some k_ ≠ (.slice Ao11 t377.length co11 : Value).ownBlock) (.slice Ao15 t380.length co15) t380) := ⟨by (with_reducible repeat (first | apply Kd.R_alloc | apply Kd.R_drewN | apply Kd.R_drew)); exact Kd.R_mono (Kd.R_far (p := ⟨gb406, 2, none⟩) (Kd.R_far (p := ⟨gb406, 1, none⟩) (Kd.R_far (p := ⟨gb406, 0, none⟩) (Kd.R_types HO382.out BK406.out (by decide)) (fun _ hk => hk.2) (.bool t399)) (fun _ hk => hk.2) (.slice Ao28 t400.length co28)) (fun _ hk => hk.2) (.slice Ao29 t403.length co29)) (fun _ hk => hk.1)⟩
    have n2_ : Aside0 (Kd.R k91 91 (((w23.setCell ⟨gb406, 0, none⟩ (.bool t399)).setCell ⟨gb406, 1, none⟩ (.slice Ao28 t400.length co28)).setCell ⟨gb406, 2, none⟩ (.slice Ao29 t403.length co29)) w.heap.size (fun _ => True) (.slice Ao16 t383.length co16) t383) := ⟨by (with_reducible repeat (first | apply Kd.R_alloc | apply Kd.R_drewN | apply Kd.R_drew)); exact Kd.R_mono (Kd.R_far (p := ⟨gb406, 2, none⟩) (Kd.R_far (p := ⟨gb406, 1, none⟩) (Kd.R_far (p := ⟨gb406, 0, none⟩) (Kd.R_types HO385.out BK406.out (by decide)) (fun _ hk => hk.2) (.bool t399)) (fun _ hk => hk.2) (.slice Ao28 t400.length co28)) (fun _ hk => hk.2) (.slice Ao29 t403.length co29)) (fun _ hk => trivial)⟩
    have n3_ : Aside0 (Kd.R k78 78 (((w23.setCell ⟨gb406, 0, none⟩ (.bool t399)).setCell ⟨gb406, 1, none⟩ (.slice Ao28 t400.length co28)).setCell ⟨gb406, 2, none⟩ (.slice Ao29 t403.length co29)) w.heap.size (fun k_ => some k_ ≠ (.slice Ao20 t390.length co20 : Value).ownBlock ∧ some k_ ≠ (.slice Ao28 t400.length co28 : Value).ownBlock ∧ some k_ ≠ (.slice Ao29 t403.length co29 : Value).ownBlock ∧ k_ ≠ gb398) (.slice Ao19 t387.length co19) t387) := ⟨by (with_reducible repeat (first | apply Kd.R_alloc | apply Kd.R_drewN | apply Kd.R_drew)); exact Kd.R_mono (Kd.R_far (p := ⟨gb406, 2, none⟩) (Kd.R_far (p := ⟨gb406, 1, none⟩) (Kd.R_far (p := ⟨gb406, 0, none⟩) (Kd.R_types HO389.out BK406.out (by decide)) (fun _ hk => hk.2) (.bool t399)) (fun _ hk => hk.2) (.slice Ao28 t400.length co28)) (fun _ hk => hk.2) (.slice Ao29 t403.length co29)) (fun _ hk => ⟨hk.1.1.1.1, ⟨hk.1.1.2, ⟨hk.1.2, hk.1.1.1.2⟩⟩⟩)⟩
    have n4_ : Aside0 (Kd.R k78 78 (((w23.setCell ⟨gb406, 0, none⟩ (.bool t399)).setCell ⟨gb406, 1, none⟩ (.slice Ao28 t400.length co28)).setCell ⟨gb406, 2, none⟩ (.slice Ao29 t403.length co29)) w.heap.size (fun k_ => some k_ ≠ (.slice Ao19 t387.length co19 : Value).ownBlock ∧ some k_ ≠ (.slice Ao28 t400.length co28 : Value).ownBlock ∧ some k_ ≠ (.slice Ao29 t403.length co29 : Value).ownBlock ∧ k_ ≠ gb398) (.slice Ao20 t390.length co20) t390) := ⟨by (with_reducible repeat (first | apply Kd.R_alloc | apply Kd.R_drewN | apply Kd.R_drew)); exact Kd.R_mono (Kd.R_far (p := ⟨gb406, 2, none⟩) (Kd.R_far (p := ⟨gb406, 1, none⟩) (Kd.R_far (p := ⟨gb406, 0, none⟩) (Kd.R_types HO392.out BK406.out (by decide)) (fun _ hk => hk.2) (.bool t399)) (fun _ hk => hk.2) (.slice Ao28 t400.length co28)) (fun _ hk => hk.2) (.slice Ao29 t403.length co29)) (fun _ hk => ⟨hk.1.1.1.1, ⟨hk.1.1.2, ⟨hk.1.2, hk.1.1.1.2⟩⟩⟩)⟩
    have n5_ : Aside0 (Kd.R k78 78 (((w23.setCell ⟨gb406, 0, none⟩ (.bool t399)).setCell ⟨gb406, 1, none⟩ (.slice Ao28 t400.length co28)).setCell ⟨gb406, 2, none⟩ (.slice Ao29 t403.length co29)) w.heap.size (fun k_ => some k_ ≠ (.slice Ao19 t387.length co19 : Value).ownBlock ∧ some k_ ≠ (.slice Ao20 t390.length co20 : Value).ownBlock ∧ some k_ ≠ (.slice Ao29 t403.length co29 : Value).ownBlock ∧ k_ ≠ gb398) (.slice Ao28 t400.length co28) t400) := ⟨by (with_reducible repeat (first | apply Kd.R_alloc | apply Kd.R_drewN | apply Kd.R_drew)); exact Kd.R_mono (Kd.R_far (p := ⟨gb406, 2, none⟩) (Kd.R_far (p := ⟨gb406, 1, none⟩) (Kd.R_far (p := ⟨gb406, 0, none⟩) (Kd.R_types HO402.out BK406.out (by decide)) (fun _ hk => hk.2) (.bool t399)) (fun _ hk => hk.2) (.slice Ao28 t400.length co28)) (fun _ hk => hk.2) (.slice Ao29 t403.length co29)) (fun _ hk => ⟨hk.1.1.1.2, ⟨hk.1.1.2, ⟨hk.1.1.1.1, hk.1.2⟩⟩⟩)⟩
    have n6_ : Aside0 (Kd.R k78 78 (((w23.setCell ⟨gb406, 0, none⟩ (.bool t399)).setCell ⟨gb406, 1, none⟩ (.slice Ao28 t400.length co28)).setCell ⟨gb406, 2, none⟩ (.slice Ao29 t403.length co29)) w.heap.size (fun k_ => some k_ ≠ (.slice Ao19 t387.length co19 : Value).ownBlock ∧ some k_ ≠ (.slice Ao20 t390.length co20 : Value).ownBlock ∧ some k_ ≠ (.slice Ao28 t400.length co28 : Value).ownBlock ∧ k_ ≠ gb398) (.slice Ao29 t403.length co29) t403) := ⟨by (with_reducible repeat (first | apply Kd.R_alloc | apply Kd.R_drewN | apply Kd.R_drew)); exact Kd.R_mono (Kd.R_far (p := ⟨gb406, 2, none⟩) (Kd.R_far (p := ⟨gb406, 1, none⟩) (Kd.R_far (p := ⟨gb406, 0, none⟩) (Kd.R_types HO405.out BK406.out (by decide)) (fun _ hk => hk.2) (.bool t399)) (fun _ hk => hk.2) (.slice Ao28 t400.length co28)) (fun _ hk => hk.2) (.slice Ao29 t403.length co29)) (fun _ hk => ⟨hk.1.1.1.2, ⟨hk.1.1.2, ⟨hk.1.1.1.1, hk.1.2⟩⟩⟩)⟩
    have n7_ : Aside0 ((((w23.setCell ⟨gb406, 0, none⟩ (.bool t399)).setCell ⟨gb406, 1, none⟩ (.slice Ao28 t400.length co28)).setCell ⟨gb406, 2, none⟩ (.slice Ao29 t403.length co29)).heap[gb396]? = some (.cells #[.slice Ao11 t377.length co11, .slice Ao15 t380.length co15, .slice Ao16 t383.length co16] 30 (0, 0))) := ⟨bx BK396⟩
    have n8_ : Aside0 ((((w23.setCell ⟨gb406, 0, none⟩ (.bool t399)).setCell ⟨gb406, 1, none⟩ (.slice Ao28 t400.length co28)).setCell ⟨gb406, 2, none⟩ (.slice Ao29 t403.length co29)).heap[gb397]? = some (.cells #[.bool t386, .slice Ao19 t387.length co19, .slice Ao20 t390.length co20] 41 (0, 0))) := ⟨bx BK397⟩
    have n9_ : Aside0 ((((w23.setCell ⟨gb406, 0, none⟩ (.bool t399)).setCell ⟨gb406, 1, none⟩ (.slice Ao28 t400.length co28)).setCell ⟨gb406, 2, none⟩ (.slice Ao29 t403.length co29)).heap[gb398]? = some (.cells #[.int .i64 t394, .int .i64 t395] 78 (0, 0))) := ⟨bx BK398⟩
    have n10_ : Aside0 ((((w23.setCell ⟨gb406, 0, none⟩ (.bool t399)).setCell ⟨gb406, 1, none⟩ (.slice Ao28 t400.length co28)).setCell ⟨gb406, 2, none⟩ (.slice Ao29 t403.length co29)).heap[gb406]? = some (.cells #[.bool t399, .slice Ao28 t400.length co28, .slice Ao29 t403.length co29] 41 (0, 0))) := ⟨by (with_reducible repeat (first | refine blk_drewN ?_ _ | refine blk_drew ?_ | refine blk_alloc ?_ _)); refine blk_put (cs := #[.bool t399, .slice Ao28 t400.length co28, .slice none 0 0]) ?_ 2 _ rfl; (with_reducible repeat (first | refine blk_drewN ?_ _ | refine blk_drew ?_ | refine blk_alloc ?_ _)); refine blk_put (cs := #[.bool t399, .slice none 0 0, .slice none 0 0]) ?_ 1 _ rfl; (with_reducible repeat (first | refine blk_drewN ?_ _ | refine blk_drew ?_ | refine blk_alloc ?_ _)); refine blk_put (cs := #[.bool false, .slice none 0 0, .slice none 0 0]) ?_ 0 _ rfl; (with_reducible repeat (first | refine blk_drewN ?_ _ | refine blk_drew ?_ | refine blk_alloc ?_ _)); exact BK406.out⟩
    have n11_ : Aside0 (Below w.heap.size w (((w23.setCell ⟨gb406, 0, none⟩ (.bool t399)).setCell ⟨gb406, 1, none⟩ (.slice Ao28 t400.length co28)).setCell ⟨gb406, 2, none⟩ (.slice Ao29 t403.length co29))) := ⟨bw HB⟩
    (try clear HO379)
    (try clear HO382)
    (try clear HO385)
    (try clear HO389)
    (try clear HO392)
    (try clear HO402)
    (try clear HO405)
    (try clear BK396)
    (try clear BK397)
    (try clear BK398)
    (try clear BK406)
    (try clear HB)
    generalize (((w23.setCell ⟨gb406, 0, none⟩ (.bool t399)).setCell ⟨gb406, 1, none⟩ (.slice Ao28 t400.length co28)).setCell ⟨gb406, 2, none⟩ (.slice Ao29 t403.length co29)) = w39 at n0_ n1_ n2_ n3_ n4_ n5_ n6_ n7_ n8_ n9_ n10_ n11_ ⊢
    have HO379 := n0_
    have HO382 := n1_
    have HO385 := n2_
    have HO389 := n3_
    have HO392 := n4_
    have HO402 := n5_
    have HO405 := n6_
    have BK396 := n7_
    have BK397 := n8_
    have BK398 := n9_
    have BK406 := n10_
    have HB := n11_
    clear n0_ n1_ n2_ n3_ n4_ n5_ n6_ n7_ n8_ n9_ n10_ n11_
    have n0_ := Aside0.mk (Kd.R_drew HO379.out)
    have n1_ := Aside0.mk (Kd.R_drew HO382.out)
    have n2_ := Aside0.mk (Kd.R_drew HO385.out)
    have n3_ := Aside0.mk (Kd.R_drew HO389.out)
    have n4_ := Aside0.mk (Kd.R_drew HO392.out)
    have n5_ := Aside0.mk (Kd.R_drew HO402.out)
    have n6_ := Aside0.mk (Kd.R_drew HO405.out)
    have n7_ := Aside0.mk (blk_drew BK396.out)
    have n8_ := Aside0.mk (blk_drew BK397.out)
    have n9_ := Aside0.mk (blk_drew BK398.out)
    have n10_ := Aside0.mk (blk_drew BK406.out)
    have n11_ := Aside0.mk (below_drew1 HB.out)
    clear HO379
    clear HO382
    clear HO385
    clear HO389
    clear HO392
    clear HO402
    clear HO405
    clear BK396
    clear BK397
    clear BK398
    clear BK406
    clear HB
    have HO379 := n0_
    have HO382 := n1_
    have HO385 := n2_
    have HO389 := n3_
    have HO392 := n4_
    have HO402 := n5_
    have HO405 := n6_
    have BK396 := n7_
    have BK397 := n8_
    have BK398 := n9_
    have BK406 := n10_
    have HB := n11_
    clear n0_ n1_ n2_ n3_ n4_ n5_ n6_ n7_ n8_ n9_ n10_ n11_
    refine start_ (n := 13) (S := fun w' => w'.cell? ⟨gb406, 0, none⟩ = some (.bool t399) ∧ w'.cell? ⟨gb406, 1, none⟩ = some (.slice Ao28 t400.length co28) ∧ w'.cell? ⟨gb406, 2, none⟩ = some (.slice Ao29 t403.length co29) ∧ w'.cell? ⟨gb396, 0, none⟩ = some (.slice Ao11 t377.length co11) ∧ w'.cell? ⟨gb396, 1, none⟩ = some (.slice Ao15 t380.length co15) ∧ w'.cell? ⟨gb396, 2, none⟩ = some (.slice Ao16 t383.length co16) ∧ w'.cell? ⟨gb397, 0, none⟩ = some (.bool t386) ∧ w'.cell? ⟨gb397, 1, none⟩ = some (.slice Ao19 t387.length co19) ∧ w'.cell? ⟨gb397, 2, none⟩ = some (.slice Ao20 t390.length co20) ∧ w'.cell? ⟨gb398, 0, none⟩ = some (.int .i64 t394) ∧ w'.cell? ⟨gb398, 1, none⟩ = some (.int .i64 t395)) (ds := []) #[false, false, false, false, false, false, false, false, false, false, false, false, false] (by kernel_rfl) rfl rfl ⟨(blk_cell BK406.out 0).trans rfl, (blk_cell BK406.out 1).trans rfl, (blk_cell BK406.out 2).trans rfl, (blk_cell BK396.out 0).trans rfl, (blk_cell BK396.out 1).trans rfl, (blk_cell BK396.out 2).trans rfl, (blk_cell BK397.out 0).trans rfl, (blk_cell BK397.out 1).trans rfl, (blk_cell BK397.out 2).trans rfl, (blk_cell BK398.out 0).trans rfl, (blk_cell BK398.out 1).trans rfl⟩ (fun hHeld => ?_); refine with_tabW laws_FnSet.tab5 laws_FnSet.bits5 (fun HT_ HW_ => ?_)
    generalize w39.drew = w40 at HO379 HO382 HO385 HO389 HO392 HO402 HO405 BK396 BK397 BK398 BK406 HB hHeld ⊢
    refine pure_ (i := 3) (N := some 26) (v := ?_) (a' := ?_) #[false, false, false, true, false, false, false, false, false, false, false, false, false] rfl rfl (any_of HT_.out (by kernel_rfl)) (fun _ _ _ h => h) (Or.inl ⟨by rfl, ?_⟩) ?_ ?_
    rotate_left
    ·intro w'
     go_simp
     with_reducible rfl
    rotate_left
    ·simp only [Act.put, List.setIfInBounds_toArray, List.set_cons_zero, List.set_cons_succ, i64_w, i32_w]
     rfl
    refine take_ (i := 0) (N := some 23) (v := ?_) (a' := ?_) #[true, false, false, true, false, false, false, false, false, false, false, false, false] rfl rfl (take_ofW HT_.out HW_.out (by kernel_rfl)) (fun _ _ _ h => h) (Or.inl ⟨by rfl, ?_⟩) hHeld ?_ ?_
    rotate_left
    ·rintro w' ⟨s0, s1, s2, s3, s4, s5, s6, s7, s8, s9, s10⟩
     go_simp
     with_reducible rfl
    rotate_left
    ·simp only [Act.put, List.setIfInBounds_toArray, List.set_cons_zero, List.set_cons_succ, i64_w, i32_w]
     rfl
    refine take_ (i := 1) (N := some 24) (v := ?_) (a' := ?_) #[true, true, false, true, false, false, false, false, false, false, false, false, false] rfl rfl (take_ofW HT_.out HW_.out (by kernel_rfl)) (fun _ _ _ h => h) (Or.inl ⟨by rfl, ?_⟩) hHeld ?_ ?_
    rotate_left
    ·rintro w' ⟨s0, s1, s2, s3, s4, s5, s6, s7, s8, s9, s10⟩
     go_simp
     with_reducible rfl
    rotate_left
    ·simp only [Act.put, List.setIfInBounds_toArray, List.set_cons_zero, List.set_cons_succ, i64_w, i32_w]
     rfl
    refine take_ (i := 2) (N := some 25) (v := ?_) (a' := ?_) #[true, true, true, true, false, false, false, false, false, false, false, false, false] rfl rfl (take_ofW HT_.out HW_.out (by kernel_rfl)) (fun _ _ _ h => h) (Or.inl ⟨by rfl, ?_⟩) hHeld ?_ ?_
    rotate_left
    ·rintro w' ⟨s0, s1, s2, s3, s4, s5, s6, s7, s8, s9, s10⟩
     go_simp
     with_reducible rfl
    rotate_left
    ·simp only [Act.put, List.setIfInBounds_toArray, List.set_cons_zero, List.set_cons_succ, i64_w, i32_w]
     rfl
    refine take_ (i := 4) (N := some 27) (v := ?_) (a' := ?_) #[true, true, true, true, true, false, false, false, false, false, false, false, false] rfl rfl (take_ofW HT_.out HW_.out (by kernel_rfl)) (fun _ _ _ h => h) (Or.inl ⟨by rfl, ?_⟩) hHeld ?_ ?_
    rotate_left
    ·rintro w' ⟨s0, s1, s2, s3, s4, s5, s6, s7, s8, s9, s10⟩
     go_simp
     with_reducible rfl
    rotate_left
    ·simp only [Act.put, List.setIfInBounds_toArray, List.set_cons_zero, List.set_cons_succ, i64_w, i32_w]
     rfl
    refine one_ (i := 5) (N := some 28) #[true, true, true, true, true, true, false, false, false, false, false, false, false] rfl rfl (one_of HT_.out (by kernel_rfl)) (by decide) (fun K hK => ?_)
    refine goes_ Tryd.func48 (by kernel_rfl) rfl #[.agg #[.slice Ao11 t377.length co11, .slice Ao15 t380.length co15, .slice Ao16 t383.length co16], .agg #[.bool t386, .slice Ao19 t387.length co19, .slice Ao20 t390.length co20], .int .i64 t393, .agg #[.int .i64 t394, .int .i64 t395]] (by rfl) rfl rfl (by (try simp only [List.map_toArray, List.map_cons, List.map_nil]); first | done | rfl | (simp only [List.length_drop, List.length_take]; rfl)) ?_
    with_reducible refine (spec_EnvSet.calls k _ _ t377 _ _ t380 _ _ t383 t386 _ _ t387 _ _ t390 t393 t394 t395 t407 t408 t411 _ ?side1 ?side2 ?side3 ?side4 ?side5 ?side6 ?side7 ?side8 ?side9 ?side10 A30.out).mono ?_
    (case side1 => repeat (first | exact (Kd.R_reads' HO379.out).2.2 | (with_reducible refine Kd.C_alloc ?_ _) | (with_reducible refine Kd.C_drewN ?_ _) | (with_reducible refine Kd.C_drew ?_)))
    (case side2 => exact (Kd.R_reads' HO379.out).2.1)
    (case side3 => repeat (first | exact (Kd.R_reads' HO382.out).2.2 | (with_reducible refine Kd.C_alloc ?_ _) | (with_reducible refine Kd.C_drewN ?_ _) | (with_reducible refine Kd.C_drew ?_)))
    (case side4 => exact (Kd.R_reads' HO382.out).2.1)
    (case side5 => repeat (first | exact (Kd.R_reads' HO385.out).2.2 | (with_reducible refine Kd.C_alloc ?_ _) | (with_reducible refine Kd.C_drewN ?_ _) | (with_reducible refine Kd.C_drew ?_)))
    (case side6 => exact (Kd.R_reads' HO385.out).2.1)
    (case side7 => repeat (first | exact (Kd.R_reads' HO389.out).2.2 | (with_reducible refine Kd.C_alloc ?_ _) | (with_reducible refine Kd.C_drewN ?_ _) | (with_reducible refine Kd.C_drew ?_)))
    (case side8 => exact (Kd.R_reads' HO389.out).2.1)
    (case side9 => repeat (first | exact (Kd.R_reads' HO392.out).2.2 | (with_reducible refine Kd.C_alloc ?_ _) | (with_reducible refine Kd.C_drewN ?_ _) | (with_reducible refine Kd.C_drew ?_)))
    (case side10 => exact (Kd.R_reads' HO392.out).2.1)
    rintro e w41 ⟨v409, v412, rfl, ho0, ho1, hb⟩
    refine ⟨_, rfl, ?_⟩
    have n0_ := Aside0.mk (Kd.R_below (by (with_reducible repeat (first | apply Kd.R_alloc | apply Kd.R_drewN | apply Kd.R_drew)); exact HO379.out) hb)
    have n1_ := Aside0.mk (Kd.R_below (by (with_reducible repeat (first | apply Kd.R_alloc | apply Kd.R_drewN | apply Kd.R_drew)); exact HO382.out) hb)
    have n2_ := Aside0.mk (Kd.R_below (by (with_reducible repeat (first | apply Kd.R_alloc | apply Kd.R_drewN | apply Kd.R_drew)); exact HO385.out) hb)
    have n3_ := Aside0.mk (Kd.R_mono (Kd.R_told (Kd.R_told (Kd.R_old (by (with_reducible repeat (first | apply Kd.R_alloc | apply Kd.R_drewN | apply Kd.R_drew)); exact HO389.out) hb) (Kd.R_base ho0)) (Kd.R_base ho1)) (fun _ h_ => h_.1))
    have n4_ := Aside0.mk (Kd.R_mono (Kd.R_told (Kd.R_told (Kd.R_old (by (with_reducible repeat (first | apply Kd.R_alloc | apply Kd.R_drewN | apply Kd.R_drew)); exact HO392.out) hb) (Kd.R_base ho0)) (Kd.R_base ho1)) (fun _ h_ => h_.1))
    have n5_ := Aside0.mk (Kd.R_mono (Kd.R_told (Kd.R_told (Kd.R_old (by (with_reducible repeat (first | apply Kd.R_alloc | apply Kd.R_drewN | apply Kd.R_drew)); exact HO402.out) hb) (Kd.R_base ho0)) (Kd.R_base ho1)) (fun _ h_ => h_.1))
    have n6_ := Aside0.mk (Kd.R_mono (Kd.R_told (Kd.R_told (Kd.R_old (by (with_reducible repeat (first | apply Kd.R_alloc | apply Kd.R_drewN | apply Kd.R_drew)); exact HO405.out) hb) (Kd.R_base ho0)) (Kd.R_base ho1)) (fun _ h_ => h_.1))
    have n7_ := Aside0.mk (Kd.R_lower (Kd.R_newB (Kd.R_new' (Kd.R_new' (Kd.R_new' (Kd.R_new' ho0 (Kd.R_lt (by (with_reducible repeat (first | apply Kd.R_alloc | apply Kd.R_drewN | apply Kd.R_drew)); exact HO389.out))) (Kd.R_lt (by (with_reducible repeat (first | apply Kd.R_alloc | apply Kd.R_drewN | apply Kd.R_drew)); exact HO392.out))) (Kd.R_lt (by (with_reducible repeat (first | apply Kd.R_alloc | apply Kd.R_drewN | apply Kd.R_drew)); exact HO402.out))) (Kd.R_lt (by (with_reducible repeat (first | apply Kd.R_alloc | apply Kd.R_drewN | apply Kd.R_drew)); exact HO405.out))) (bk BK398)) (below_size (bw HB)))
    have n8_ := Aside0.mk (Kd.R_lower (Kd.R_newB (Kd.R_new' (Kd.R_new' (Kd.R_new' (Kd.R_new' ho1 (Kd.R_lt (by (with_reducible repeat (first | apply Kd.R_alloc | apply Kd.R_drewN | apply Kd.R_drew)); exact HO389.out))) (Kd.R_lt (by (with_reducible repeat (first | apply Kd.R_alloc | apply Kd.R_drewN | apply Kd.R_drew)); exact HO392.out))) (Kd.R_lt (by (with_reducible repeat (first | apply Kd.R_alloc | apply Kd.R_drewN | apply Kd.R_drew)); exact HO402.out))) (Kd.R_lt (by (with_reducible repeat (first | apply Kd.R_alloc | apply Kd.R_drewN | apply Kd.R_drew)); exact HO405.out))) (bk BK398)) (below_size (bw HB)))
    have n9_ := bb BK396 hb
    have n10_ := bb BK397 hb
    have n11_ := bb BK398 hb
    have n12_ := bb BK406 hb
    have n13_ := bs HB hb
    clear HO379
    clear HO382
    clear HO385
    clear HO389
    clear HO392
    clear HO402
    clear HO405
    clear BK396
    clear BK397
    clear BK398
    clear BK406
    clear HB
    have HO379 := n0_
    have HO382 := n1_
    have HO385 := n2_
    have HO389 := n3_
    have HO392 := n4_
    have HO402 := n5_
    have HO405 := n6_
    have HO410 := n7_
    have HO413 := n8_
    have BK396 := n9_
    have BK397 := n10_
    have BK398 := n11_
    have BK406 := n12_
    have HB := n13_
    clear n0_ n1_ n2_ n3_ n4_ n5_ n6_ n7_ n8_ n9_ n10_ n11_ n12_ n13_
    (try clear hb)
    (try clear hb2)
    (try clear hk)
    (try clear hi)
    (try clear ho0)
    (try clear ho1)
    obtain ⟨Ao42, co42, eo42⟩ := Kd.R_slice HO410.out
    (first | subst eo42 | (injection eo42 with f1_ f2_ f3_; have f4_ := f1_.symm; have f5_ := f3_.symm; clear f1_ f2_ f3_; subst f4_; subst f5_))
    obtain ⟨Ao43, co43, eo43⟩ := Kd.R_slice HO413.out
    (first | subst eo43 | (injection eo43 with f1_ f2_ f3_; have f4_ := f1_.symm; have f5_ := f3_.symm; clear f1_ f2_ f3_; subst f4_; subst f5_))
    refine hK.out _ _ ⟨(blk_cell BK406.out 0).trans rfl, (blk_cell BK406.out 1).trans rfl, (blk_cell BK406.out 2).trans rfl, (blk_cell BK396.out 0).trans rfl, (blk_cell BK396.out 1).trans rfl, (blk_cell BK396.out 2).trans rfl, (blk_cell BK397.out 0).trans rfl, (blk_cell BK397.out 1).trans rfl, (blk_cell BK397.out 2).trans rfl, (blk_cell BK398.out 0).trans rfl, (blk_cell BK398.out 1).trans rfl⟩ (fun hHeld => ?_)
    clear hK K
    refine norm_ (a' := ?_) ?_ ?_
    rotate_left
    ·show Act.put _ (some 28) _ = _
     simp only [Act.put, List.setIfInBounds_toArray, List.set_cons_zero, List.set_cons_succ, i64_w, i32_w]
     rfl
    refine one_ (i := 6) (N := some 29) #[true, true, true, true, true, true, true, false, false, false, false, false, false] rfl rfl (one_of HT_.out (by kernel_rfl)) (by decide) (fun K hK => ?_)
    refine goes_ Tryd.func47 (by kernel_rfl) rfl #[.agg #[.bool t399, .slice Ao28 t400.length co28, .slice Ao29 t403.length co29], .agg #[.bool t407, .slice Ao42 t408.length co42, .slice Ao43 t411.length co43]] (by rfl) rfl rfl (by (try simp only [List.map_toArray, List.map_cons, List.map_nil]); first | done | rfl | (simp only [List.length_drop, List.length_take]; rfl)) ?_
    with_reducible refine (laws_sameEnv.calls k t399 _ _ t400 _ _ t403 t407 _ _ t408 _ _ t411 false _ ?side1 ?side2 ?side3 ?side4 ?side5 ?side6 ?side7 ?side8 A31.out).mono ?_
    (case side1 => repeat (first | exact (Kd.R_reads' HO402.out).2.2 | (with_reducible refine Kd.C_alloc ?_ _) | (with_reducible refine Kd.C_drewN ?_ _) | (with_reducible refine Kd.C_drew ?_)))
    (case side2 => exact (Kd.R_reads' HO402.out).2.1)
    (case side3 => repeat (first | exact (Kd.R_reads' HO405.out).2.2 | (with_reducible refine Kd.C_alloc ?_ _) | (with_reducible refine Kd.C_drewN ?_ _) | (with_reducible refine Kd.C_drew ?_)))
    (case side4 => exact (Kd.R_reads' HO405.out).2.1)
    (case side5 => repeat (first | exact (Kd.R_reads' HO410.out).2.2 | (with_reducible refine Kd.C_alloc ?_ _) | (with_reducible refine Kd.C_drewN ?_ _) | (with_reducible refine Kd.C_drew ?_)))
    (case side6 => exact (Kd.R_reads' HO410.out).2.1)
    (case side7 => repeat (first | exact (Kd.R_reads' HO413.out).2.2 | (with_reducible refine Kd.C_alloc ?_ _) | (with_reducible refine Kd.C_drewN ?_ _) | (with_reducible refine Kd.C_drew ?_)))
    (case side8 => exact (Kd.R_reads' HO413.out).2.1)
    rintro e w44 ⟨rfl, hb⟩
    refine ⟨_, rfl, ?_⟩
    have n0_ := Aside0.mk (Kd.R_below (by (with_reducible repeat (first | apply Kd.R_alloc | apply Kd.R_drewN | apply Kd.R_drew)); exact HO379.out) hb)
    have n1_ := Aside0.mk (Kd.R_below (by (with_reducible repeat (first | apply Kd.R_alloc | apply Kd.R_drewN | apply Kd.R_drew)); exact HO382.out) hb)
    have n2_ := Aside0.mk (Kd.R_below (by (with_reducible repeat (first | apply Kd.R_alloc | apply Kd.R_drewN | apply Kd.R_drew)); exact HO385.out) hb)
    have n3_ := Aside0.mk (Kd.R_below (by (with_reducible repeat (first | apply Kd.R_alloc | apply Kd.R_drewN | apply Kd.R_drew)); exact HO389.out) hb)
    have n4_ := Aside0.mk (Kd.R_below (by (with_reducible repeat (first | apply Kd.R_alloc | apply Kd.R_drewN | apply Kd.R_drew)); exact HO392.out) hb)
    have n5_ := Aside0.mk (Kd.R_below (by (with_reducible repeat (first | apply Kd.R_alloc | apply Kd.R_drewN | apply Kd.R_drew)); exact HO402.out) hb)
    have n6_ := Aside0.mk (Kd.R_below (by (with_reducible repeat (first | apply Kd.R_alloc | apply Kd.R_drewN | apply Kd.R_drew)); exact HO405.out) hb)
    have n7_ := Aside0.mk (Kd.R_below (by (with_reducible repeat (first | apply Kd.R_alloc | apply Kd.R_drewN | apply Kd.R_drew)); exact HO410.out) hb)
    have n8_ := Aside0.mk (Kd.R_below (by (with_reducible repeat (first | apply Kd.R_alloc | apply Kd.R_drewN | apply Kd.R_drew)); exact HO413.out) hb)
    have n9_ := bb BK396 hb
    have n10_ := bb BK397 hb
    have n11_ := bb BK398 hb
    have n12_ := bb BK406 hb
    have n13_ := bs HB hb
    clear HO379
    clear HO382
    clear HO385
    clear HO389
    clear HO392
    clear HO402
    clear HO405
    clear HO410
    clear HO413
    clear BK396
    clear BK397
    clear BK398
    clear BK406
    clear HB
    have HO379 := n0_
    have HO382 := n1_
    have HO385 := n2_
    have HO389 := n3_
    have HO392 := n4_
    have HO402 := n5_
    have HO405 := n6_
    have HO410 := n7_
    have HO413 := n8_
    have BK396 := n9_
    have BK397 := n10_
    have BK398 := n11_
    have BK406 := n12_
    have HB := n13_
    clear n0_ n1_ n2_ n3_ n4_ n5_ n6_ n7_ n8_ n9_ n10_ n11_ n12_ n13_
    (try clear hb)
    (try clear hb2)
    (try clear hk)
    (try clear hi)
    refine hK.out _ _ ⟨(blk_cell BK406.out 0).trans rfl, (blk_cell BK406.out 1).trans rfl, (blk_cell BK406.out 2).trans rfl, (blk_cell BK396.out 0).trans rfl, (blk_cell BK396.out 1).trans rfl, (blk_cell BK396.out 2).trans rfl, (blk_cell BK397.out 0).trans rfl, (blk_cell BK397.out 1).trans rfl, (blk_cell BK397.out 2).trans rfl, (blk_cell BK398.out 0).trans rfl, (blk_cell BK398.out 1).trans rfl⟩ (fun hHeld => ?_)
    clear hK K
    refine norm_ (a' := ?_) ?_ ?_
    rotate_left
    ·show Act.put _ (some 29) _ = _
     simp only [Act.put, List.setIfInBounds_toArray, List.set_cons_zero, List.set_cons_succ, i64_w, i32_w]
     rfl
    refine pure_ (i := 7) (N := some 30) (v := ?_) (a' := ?_) #[true, true, true, true, true, true, true, true, false, false, false, false, false] rfl rfl (any_of HT_.out (by kernel_rfl)) (fun _ _ _ h => h) (Or.inl ⟨by rfl, ?_⟩) ?_ ?_
    rotate_left
    ·intro w'
     go_simp
     with_reducible rfl
    rotate_left
    ·simp only [Act.put, List.setIfInBounds_toArray, List.set_cons_zero, List.set_cons_succ, i64_w, i32_w]
     rfl
    refine pure_ (i := 8) (N := some 31) (v := ?_) (a' := ?_) #[true, true, true, true, true, true, true, true, true, false, false, false, false] rfl rfl (any_of HT_.out (by kernel_rfl)) (fun _ _ _ h => h) (Or.inl ⟨by rfl, ?_⟩) ?_ ?_
    rotate_left
    ·intro w'
     go_simp
     with_reducible rfl
    rotate_left
    ·simp only [Act.put, List.setIfInBounds_toArray, List.set_cons_zero, List.set_cons_succ, i64_w, i32_w]
     rfl
    refine pure_ (i := 9) (N := some 32) (v := undef) (a' := ?_) #[true, true, true, true, true, true, true, true, true, true, false, false, false] rfl rfl (any_of HT_.out (by kernel_rfl)) (fun _ _ _ h => h) (Or.inr ⟨by rfl, rfl⟩) ?_ ?_
    rotate_left
    ·simp only [Act.put, List.setIfInBounds_toArray, List.set_cons_zero, List.set_cons_succ, i64_w, i32_w]
     rfl
    refine pure_ (i := 10) (N := some 33) (v := undef) (a' := ?_) #[true, true, true, true, true, true, true, true, true, true, true, false, false] rfl rfl (any_of HT_.out (by kernel_rfl)) (fun _ _ _ h => h) (Or.inr ⟨by rfl, rfl⟩) ?_ ?_
    rotate_left
    ·simp only [Act.put, List.setIfInBounds_toArray, List.set_cons_zero, List.set_cons_succ, i64_w, i32_w]
     rfl
    refine pure_ (i := 11) (N := some 34) (v := undef) (a' := ?_) #[true, true, true, true, true, true, true, true, true, true, true, true, false] rfl rfl (any_of HT_.out (by kernel_rfl)) (fun _ _ _ h => h) (Or.inr ⟨by rfl, rfl⟩) ?_ ?_
    rotate_left
    ·simp only [Act.put, List.setIfInBounds_toArray, List.set_cons_zero, List.set_cons_succ, i64_w, i32_w]
     rfl
    refine pure_ (i := 12) (N := some 35) (v := ?_) (a' := ?_) #[true, true, true, true, true, true, true, true, true, true, true, true, true] rfl rfl (any_of HT_.out (by kernel_rfl)) (fun _ _ _ h => h) (Or.inl ⟨by rfl, ?_⟩) ?_ ?_
    rotate_left
    ·intro w'
     go_simp
     with_reducible rfl
    rotate_left
    ·simp only [Act.put, List.setIfInBounds_toArray, List.set_cons_zero, List.set_cons_succ, i64_w, i32_w]
     rfl
    refine done_ (done_of HT_.out (by kernel_rfl)) ?_
    try go_wp2
    go_meet
    case rel => exact ⟨_, (true), (by first | rfl | (simp; done) | (simp [*]; done)), H', ⟨by first | omega | exact Nat.le_refl _⟩, ⟨by (with_reducible repeat (first | apply Kd.R_alloc | apply Kd.R_drewN | apply Kd.R_drew)); exact HO379.out⟩, ⟨by (with_reducible repeat (first | apply Kd.R_alloc | apply Kd.R_drewN | apply Kd.R_drew)); exact HO382.out⟩, ⟨by (with_reducible repeat (first | apply Kd.R_alloc | apply Kd.R_drewN | apply Kd.R_drew)); exact HO385.out⟩, ⟨by (with_reducible repeat (first | apply Kd.R_alloc | apply Kd.R_drewN | apply Kd.R_drew)); exact Kd.R_mono HO389.out (fun _ hk => ⟨hk.1.1.1, ⟨hk.1.1.2.1, ⟨hk.1.1.2.2.1, hk.1.1.2.2.2⟩⟩⟩)⟩, ⟨by (with_reducible repeat (first | apply Kd.R_alloc | apply Kd.R_drewN | apply Kd.R_drew)); exact Kd.R_mono HO392.out (fun _ hk => ⟨hk.1.1.1, ⟨hk.1.1.2.1, ⟨hk.1.1.2.2.1, hk.1.1.2.2.2⟩⟩⟩)⟩, ⟨by (with_reducible repeat (first | apply Kd.R_alloc | apply Kd.R_drewN | apply Kd.R_drew)); exact Kd.R_mono HO402.out (fun _ hk => ⟨hk.1.1.1, ⟨hk.1.1.2.1, ⟨hk.1.1.2.2.1, hk.1.1.2.2.2⟩⟩⟩)⟩, ⟨by (with_reducible repeat (first | apply Kd.R_alloc | apply Kd.R_drewN | apply Kd.R_drew)); exact Kd.R_mono HO405.out (fun _ hk => ⟨hk.1.1.1, ⟨hk.1.1.2.1, ⟨hk.1.1.2.2.1, hk.1.1.2.2.2⟩⟩⟩)⟩, ⟨bx BK396⟩, ⟨bx BK397⟩, ⟨bx BK398⟩, ⟨bx BK406⟩, ⟨bw HB⟩⟩
  case rest =>
   clear HC6
   try clear p2
   try clear c3
   try clear c4
   try clear c32
   obtain ⟨kq, x35_5, rfl, HA, HJ5, HO_397000, HO_397001, HO_397002, HO_398001, HO_398002, HO_407001, HO_407002, BK396, BK397, BK398, BK406, HB⟩ := hcut
   cases kq with
   | zero => exact absurd HA.out (by simp [laws_FnSet.j0])
   | succ kj5 =>
    have H := HA.out
    clear HA
    simp only [laws_FnSet.j0] at H
    by_cases c45 : x35_5 = true
    ·subst c45
     have H1 : ((spec_EnvSet.f kj5 t377 t380 t383 t386 t387 t390 t393 t394 t395).bind fun bt415 => ((laws_sameEnv.f kj5 t399 t400 t403 bt415.1 bt415.2.1 bt415.2.2).bind fun t422 => (some t422))) = some true := by rw [if_pos rfl] at H; first | done | exact H
     clear H
     have H := H1
     clear H1
     replace H := Option.bind_eq_some_iff.mp H
     obtain ⟨⟨t415, t416, t419⟩, A460, H⟩ := H
     replace H : ((laws_sameEnv.f kj5 t399 t400 t403 t415 t416 t419).bind fun t422 => (some t422)) = some true := H
     have A46 := Aside0.mk A460
     clear A460
     replace H := Option.bind_eq_some_iff.mp H
     obtain ⟨t422, A470, H⟩ := H
     replace H : (some t422) = some true := H
     have A47 := Aside0.mk A470
     clear A470
     have HE_ := Aside0.mk (Option.some.inj H)
     clear H
     try go_wp2
     have n0_ := Aside0.mk (Kd.R_drew HO_397000.out)
     have n1_ := Aside0.mk (Kd.R_drew HO_397001.out)
     have n2_ := Aside0.mk (Kd.R_drew HO_397002.out)
     have n3_ := Aside0.mk (Kd.R_drew HO_398001.out)
     have n4_ := Aside0.mk (Kd.R_drew HO_398002.out)
     have n5_ := Aside0.mk (Kd.R_drew HO_407001.out)
     have n6_ := Aside0.mk (Kd.R_drew HO_407002.out)
     have n7_ := Aside0.mk (blk_drew BK396.out)
     have n8_ := Aside0.mk (blk_drew BK397.out)
     have n9_ := Aside0.mk (blk_drew BK398.out)
     have n10_ := Aside0.mk (blk_drew BK406.out)
     have n11_ := Aside0.mk (below_drew1 HB.out)
     clear HO_397000
     clear HO_397001
     clear HO_397002
     clear HO_398001
     clear HO_398002
     clear HO_407001
     clear HO_407002
     clear BK396
     clear BK397
     clear BK398
     clear BK406
     clear HB
     have HO_397000 := n0_
     have HO_397001 := n1_
     have HO_397002 := n2_
     have HO_398001 := n3_
     have HO_398002 := n4_
     have HO_407001 := n5_
     have HO_407002 := n6_
     have BK396 := n7_
     have BK397 := n8_
     have BK398 := n9_
     have BK406 := n10_
     have HB := n11_
     clear n0_ n1_ n2_ n3_ n4_ n5_ n6_ n7_ n8_ n9_ n10_ n11_
     refine start_ (n := 8) (S := fun w' => w'.cell? ⟨gb406, 0, none⟩ = some (.bool t399) ∧ w'.cell? ⟨gb406, 1, none⟩ = some (.slice Ao28 t400.length co28) ∧ w'.cell? ⟨gb406, 2, none⟩ = some (.slice Ao29 t403.length co29) ∧ w'.cell? ⟨gb396, 0, none⟩ = some (.slice Ao11 t377.length co11) ∧ w'.cell? ⟨gb396, 1, none⟩ = some (.slice Ao15 t380.length co15) ∧ w'.cell? ⟨gb396, 2, none⟩ = some (.slice Ao16 t383.length co16) ∧ w'.cell? ⟨gb397, 0, none⟩ = some (.bool t386) ∧ w'.cell? ⟨gb397, 1, none⟩ = some (.slice Ao19 t387.length co19) ∧ w'.cell? ⟨gb397, 2, none⟩ = some (.slice Ao20 t390.length co20) ∧ w'.cell? ⟨gb398, 0, none⟩ = some (.int .i64 t394) ∧ w'.cell? ⟨gb398, 1, none⟩ = some (.int .i64 t395)) (ds := []) #[false, false, false, false, false, false, false, false] (by kernel_rfl) rfl rfl ⟨(blk_cell BK406.out 0).trans rfl, (blk_cell BK406.out 1).trans rfl, (blk_cell BK406.out 2).trans rfl, (blk_cell BK396.out 0).trans rfl, (blk_cell BK396.out 1).trans rfl, (blk_cell BK396.out 2).trans rfl, (blk_cell BK397.out 0).trans rfl, (blk_cell BK397.out 1).trans rfl, (blk_cell BK397.out 2).trans rfl, (blk_cell BK398.out 0).trans rfl, (blk_cell BK398.out 1).trans rfl⟩ (fun hHeld => ?_); refine with_tabW laws_FnSet.tab6 laws_FnSet.bits6 (fun HT_ HW_ => ?_)
     generalize wc.drew = w48 at HO_397000 HO_397001 HO_397002 HO_398001 HO_398002 HO_407001 HO_407002 BK396 BK397 BK398 BK406 HB hHeld ⊢
     refine pure_ (i := 3) (N := some 39) (v := ?_) (a' := ?_) #[false, false, false, true, false, false, false, false] rfl rfl (any_of HT_.out (by kernel_rfl)) (fun _ _ _ h => h) (Or.inl ⟨by rfl, ?_⟩) ?_ ?_
     rotate_left
     ·intro w'
      go_simp
      with_reducible rfl
     rotate_left
     ·simp only [Act.put, List.setIfInBounds_toArray, List.set_cons_zero, List.set_cons_succ, i64_w, i32_w]
      rfl
     refine take_ (i := 0) (N := some 36) (v := ?_) (a' := ?_) #[true, false, false, true, false, false, false, false] rfl rfl (take_ofW HT_.out HW_.out (by kernel_rfl)) (fun _ _ _ h => h) (Or.inl ⟨by rfl, ?_⟩) hHeld ?_ ?_
     rotate_left
     ·rintro w' ⟨s0, s1, s2, s3, s4, s5, s6, s7, s8, s9, s10⟩
      go_simp
      with_reducible rfl
     rotate_left
     ·simp only [Act.put, List.setIfInBounds_toArray, List.set_cons_zero, List.set_cons_succ, i64_w, i32_w]
      rfl
     refine take_ (i := 1) (N := some 37) (v := ?_) (a' := ?_) #[true, true, false, true, false, false, false, false] rfl rfl (take_ofW HT_.out HW_.out (by kernel_rfl)) (fun _ _ _ h => h) (Or.inl ⟨by rfl, ?_⟩) hHeld ?_ ?_
     rotate_left
     ·rintro w' ⟨s0, s1, s2, s3, s4, s5, s6, s7, s8, s9, s10⟩
      go_simp
      with_reducible rfl
     rotate_left
     ·simp only [Act.put, List.setIfInBounds_toArray, List.set_cons_zero, List.set_cons_succ, i64_w, i32_w]
      rfl
     refine take_ (i := 2) (N := some 38) (v := ?_) (a' := ?_) #[true, true, true, true, false, false, false, false] rfl rfl (take_ofW HT_.out HW_.out (by kernel_rfl)) (fun _ _ _ h => h) (Or.inl ⟨by rfl, ?_⟩) hHeld ?_ ?_
     rotate_left
     ·rintro w' ⟨s0, s1, s2, s3, s4, s5, s6, s7, s8, s9, s10⟩
      go_simp
      with_reducible rfl
     rotate_left
     ·simp only [Act.put, List.setIfInBounds_toArray, List.set_cons_zero, List.set_cons_succ, i64_w, i32_w]
      rfl
     refine take_ (i := 4) (N := some 40) (v := ?_) (a' := ?_) #[true, true, true, true, true, false, false, false] rfl rfl (take_ofW HT_.out HW_.out (by kernel_rfl)) (fun _ _ _ h => h) (Or.inl ⟨by rfl, ?_⟩) hHeld ?_ ?_
     rotate_left
     ·rintro w' ⟨s0, s1, s2, s3, s4, s5, s6, s7, s8, s9, s10⟩
      go_simp
      with_reducible rfl
     rotate_left
     ·simp only [Act.put, List.setIfInBounds_toArray, List.set_cons_zero, List.set_cons_succ, i64_w, i32_w]
      rfl
     refine one_ (i := 5) (N := some 41) #[true, true, true, true, true, true, false, false] rfl rfl (one_of HT_.out (by kernel_rfl)) (by decide) (fun K hK => ?_)
     refine goes_ Tryd.func48 (by kernel_rfl) rfl #[.agg #[.slice Ao11 t377.length co11, .slice Ao15 t380.length co15, .slice Ao16 t383.length co16], .agg #[.bool t386, .slice Ao19 t387.length co19, .slice Ao20 t390.length co20], .int .i64 t393, .agg #[.int .i64 t394, .int .i64 t395]] (by rfl) rfl rfl (by (try simp only [List.map_toArray, List.map_cons, List.map_nil]); first | done | rfl | (simp only [List.length_drop, List.length_take]; rfl)) ?_
     with_reducible refine (spec_EnvSet.calls kj5 _ _ t377 _ _ t380 _ _ t383 t386 _ _ t387 _ _ t390 t393 t394 t395 t415 t416 t419 _ ?side1 ?side2 ?side3 ?side4 ?side5 ?side6 ?side7 ?side8 ?side9 ?side10 A46.out).mono ?_
     (case side1 => repeat (first | exact (Kd.R_reads' HO_397000.out).2.2 | (with_reducible refine Kd.C_alloc ?_ _) | (with_reducible refine Kd.C_drewN ?_ _) | (with_reducible refine Kd.C_drew ?_)))
     (case side2 => exact (Kd.R_reads' HO_397000.out).2.1)
     (case side3 => repeat (first | exact (Kd.R_reads' HO_397001.out).2.2 | (with_reducible refine Kd.C_alloc ?_ _) | (with_reducible refine Kd.C_drewN ?_ _) | (with_reducible refine Kd.C_drew ?_)))
     (case side4 => exact (Kd.R_reads' HO_397001.out).2.1)
     (case side5 => repeat (first | exact (Kd.R_reads' HO_397002.out).2.2 | (with_reducible refine Kd.C_alloc ?_ _) | (with_reducible refine Kd.C_drewN ?_ _) | (with_reducible refine Kd.C_drew ?_)))
     (case side6 => exact (Kd.R_reads' HO_397002.out).2.1)
     (case side7 => repeat (first | exact (Kd.R_reads' HO_398001.out).2.2 | (with_reducible refine Kd.C_alloc ?_ _) | (with_reducible refine Kd.C_drewN ?_ _) | (with_reducible refine Kd.C_drew ?_)))
     (case side8 => exact (Kd.R_reads' HO_398001.out).2.1)
     (case side9 => repeat (first | exact (Kd.R_reads' HO_398002.out).2.2 | (with_reducible refine Kd.C_alloc ?_ _) | (with_reducible refine Kd.C_drewN ?_ _) | (with_reducible refine Kd.C_drew ?_)))
     (case side10 => exact (Kd.R_reads' HO_398002.out).2.1)
     rintro e w49 ⟨v417, v420, rfl, ho0, ho1, hb⟩
     refine ⟨_, rfl, ?_⟩
     have n0_ := Aside0.mk (Kd.R_below (by (with_reducible repeat (first | apply Kd.R_alloc | apply Kd.R_drewN | apply Kd.R_drew)); exact HO_397000.out) hb)
     have n1_ := Aside0.mk (Kd.R_below (by (with_reducible repeat (first | apply Kd.R_alloc | apply Kd.R_drewN | apply Kd.R_drew)); exact HO_397001.out) hb)
     have n2_ := Aside0.mk (Kd.R_below (by (with_reducible repeat (first | apply Kd.R_alloc | apply Kd.R_drewN | apply Kd.R_drew)); exact HO_397002.out) hb)
     have n3_ := Aside0.mk (Kd.R_mono (Kd.R_told (Kd.R_told (Kd.R_old (by (with_reducible repeat (first | apply Kd.R_alloc | apply Kd.R_drewN | apply Kd.R_drew)); exact HO_398001.out) hb) (Kd.R_base ho0)) (Kd.R_base ho1)) (fun _ h_ => h_.1))
     have n4_ := Aside0.mk (Kd.R_mono (Kd.R_told (Kd.R_told (Kd.R_old (by (with_reducible repeat (first | apply Kd.R_alloc | apply Kd.R_drewN | apply Kd.R_drew)); exact HO_398002.out) hb) (Kd.R_base ho0)) (Kd.R_base ho1)) (fun _ h_ => h_.1))
     have n5_ := Aside0.mk (Kd.R_mono (Kd.R_told (Kd.R_told (Kd.R_old (by (with_reducible repeat (first | apply Kd.R_alloc | apply Kd.R_drewN | apply Kd.R_drew)); exact HO_407001.out) hb) (Kd.R_base ho0)) (Kd.R_base ho1)) (fun _ h_ => h_.1))
     have n6_ := Aside0.mk (Kd.R_mono (Kd.R_told (Kd.R_told (Kd.R_old (by (with_reducible repeat (first | apply Kd.R_alloc | apply Kd.R_drewN | apply Kd.R_drew)); exact HO_407002.out) hb) (Kd.R_base ho0)) (Kd.R_base ho1)) (fun _ h_ => h_.1))
     have n7_ := Aside0.mk (Kd.R_lower (Kd.R_newB (Kd.R_new' (Kd.R_new' (Kd.R_new' (Kd.R_new' ho0 (Kd.R_lt (by (with_reducible repeat (first | apply Kd.R_alloc | apply Kd.R_drewN | apply Kd.R_drew)); exact HO_398001.out))) (Kd.R_lt (by (with_reducible repeat (first | apply Kd.R_alloc | apply Kd.R_drewN | apply Kd.R_drew)); exact HO_398002.out))) (Kd.R_lt (by (with_reducible repeat (first | apply Kd.R_alloc | apply Kd.R_drewN | apply Kd.R_drew)); exact HO_407001.out))) (Kd.R_lt (by (with_reducible repeat (first | apply Kd.R_alloc | apply Kd.R_drewN | apply Kd.R_drew)); exact HO_407002.out))) (bk BK398)) (below_size (bw HB)))
     have n8_ := Aside0.mk (Kd.R_lower (Kd.R_newB (Kd.R_new' (Kd.R_new' (Kd.R_new' (Kd.R_new' ho1 (Kd.R_lt (by (with_reducible repeat (first | apply Kd.R_alloc | apply Kd.R_drewN | apply Kd.R_drew)); exact HO_398001.out))) (Kd.R_lt (by (with_reducible repeat (first | apply Kd.R_alloc | apply Kd.R_drewN | apply Kd.R_drew)); exact HO_398002.out))) (Kd.R_lt (by (with_reducible repeat (first | apply Kd.R_alloc | apply Kd.R_drewN | apply Kd.R_drew)); exact HO_407001.out))) (Kd.R_lt (by (with_reducible repeat (first | apply Kd.R_alloc | apply Kd.R_drewN | apply Kd.R_drew)); exact HO_407002.out))) (bk BK398)) (below_size (bw HB)))
     have n9_ := bb BK396 hb
     have n10_ := bb BK397 hb
     have n11_ := bb BK398 hb
     have n12_ := bb BK406 hb
     have n13_ := bs HB hb
     clear HO_397000
     clear HO_397001
     clear HO_397002
     clear HO_398001
     clear HO_398002
     clear HO_407001
     clear HO_407002
     clear BK396
     clear BK397
     clear BK398
     clear BK406
     clear HB
     have HO_397000 := n0_
     have HO_397001 := n1_
     have HO_397002 := n2_
     have HO_398001 := n3_
     have HO_398002 := n4_
     have HO_407001 := n5_
     have HO_407002 := n6_
     have HO418 := n7_
     have HO421 := n8_
     have BK396 := n9_
     have BK397 := n10_
     have BK398 := n11_
     have BK406 := n12_
     have HB := n13_
     clear n0_ n1_ n2_ n3_ n4_ n5_ n6_ n7_ n8_ n9_ n10_ n11_ n12_ n13_
     (try clear hb)
     (try clear hb2)
     (try clear hk)
     (try clear hi)
     (try clear ho0)
     (try clear ho1)
     obtain ⟨Ao50, co50, eo50⟩ := Kd.R_slice HO418.out
     (first | subst eo50 | (injection eo50 with f1_ f2_ f3_; have f4_ := f1_.symm; have f5_ := f3_.symm; clear f1_ f2_ f3_; subst f4_; subst f5_))
     obtain ⟨Ao51, co51, eo51⟩ := Kd.R_slice HO421.out
     (first | subst eo51 | (injection eo51 with f1_ f2_ f3_; have f4_ := f1_.symm; have f5_ := f3_.symm; clear f1_ f2_ f3_; subst f4_; subst f5_))
     refine hK.out _ _ ⟨(blk_cell BK406.out 0).trans rfl, (blk_cell BK406.out 1).trans rfl, (blk_cell BK406.out 2).trans rfl, (blk_cell BK396.out 0).trans rfl, (blk_cell BK396.out 1).trans rfl, (blk_cell BK396.out 2).trans rfl, (blk_cell BK397.out 0).trans rfl, (blk_cell BK397.out 1).trans rfl, (blk_cell BK397.out 2).trans rfl, (blk_cell BK398.out 0).trans rfl, (blk_cell BK398.out 1).trans rfl⟩ (fun hHeld => ?_)
     clear hK K
     refine norm_ (a' := ?_) ?_ ?_
     rotate_left
     ·show Act.put _ (some 41) _ = _
      simp only [Act.put, List.setIfInBounds_toArray, List.set_cons_zero, List.set_cons_succ, i64_w, i32_w]
      rfl
     refine one_ (i := 6) (N := some 42) #[true, true, true, true, true, true, true, false] rfl rfl (one_of HT_.out (by kernel_rfl)) (by decide) (fun K hK => ?_)
     refine goes_ Tryd.func47 (by kernel_rfl) rfl #[.agg #[.bool t399, .slice Ao28 t400.length co28, .slice Ao29 t403.length co29], .agg #[.bool t415, .slice Ao50 t416.length co50, .slice Ao51 t419.length co51]] (by rfl) rfl rfl (by (try simp only [List.map_toArray, List.map_cons, List.map_nil]); first | done | rfl | (simp only [List.length_drop, List.length_take]; rfl)) ?_
     with_reducible refine (laws_sameEnv.calls kj5 t399 _ _ t400 _ _ t403 t415 _ _ t416 _ _ t419 t422 _ ?side1 ?side2 ?side3 ?side4 ?side5 ?side6 ?side7 ?side8 A47.out).mono ?_
     (case side1 => repeat (first | exact (Kd.R_reads' HO_407001.out).2.2 | (with_reducible refine Kd.C_alloc ?_ _) | (with_reducible refine Kd.C_drewN ?_ _) | (with_reducible refine Kd.C_drew ?_)))
     (case side2 => exact (Kd.R_reads' HO_407001.out).2.1)
     (case side3 => repeat (first | exact (Kd.R_reads' HO_407002.out).2.2 | (with_reducible refine Kd.C_alloc ?_ _) | (with_reducible refine Kd.C_drewN ?_ _) | (with_reducible refine Kd.C_drew ?_)))
     (case side4 => exact (Kd.R_reads' HO_407002.out).2.1)
     (case side5 => repeat (first | exact (Kd.R_reads' HO418.out).2.2 | (with_reducible refine Kd.C_alloc ?_ _) | (with_reducible refine Kd.C_drewN ?_ _) | (with_reducible refine Kd.C_drew ?_)))
     (case side6 => exact (Kd.R_reads' HO418.out).2.1)
     (case side7 => repeat (first | exact (Kd.R_reads' HO421.out).2.2 | (with_reducible refine Kd.C_alloc ?_ _) | (with_reducible refine Kd.C_drewN ?_ _) | (with_reducible refine Kd.C_drew ?_)))
     (case side8 => exact (Kd.R_reads' HO421.out).2.1)
     rintro e w52 ⟨rfl, hb⟩
     refine ⟨_, rfl, ?_⟩
     have n0_ := Aside0.mk (Kd.R_below (by (with_reducible repeat (first | apply Kd.R_alloc | apply Kd.R_drewN | apply Kd.R_drew)); exact HO_397000.out) hb)
     have n1_ := Aside0.mk (Kd.R_below (by (with_reducible repeat (first | apply Kd.R_alloc | apply Kd.R_drewN | apply Kd.R_drew)); exact HO_397001.out) hb)
     have n2_ := Aside0.mk (Kd.R_below (by (with_reducible repeat (first | apply Kd.R_alloc | apply Kd.R_drewN | apply Kd.R_drew)); exact HO_397002.out) hb)
     have n3_ := Aside0.mk (Kd.R_below (by (with_reducible repeat (first | apply Kd.R_alloc | apply Kd.R_drewN | apply Kd.R_drew)); exact HO_398001.out) hb)
     have n4_ := Aside0.mk (Kd.R_below (by (with_reducible repeat (first | apply Kd.R_alloc | apply Kd.R_drewN | apply Kd.R_drew)); exact HO_398002.out) hb)
     have n5_ := Aside0.mk (Kd.R_below (by (with_reducible repeat (first | apply Kd.R_alloc | apply Kd.R_drewN | apply Kd.R_drew)); exact HO_407001.out) hb)
     have n6_ := Aside0.mk (Kd.R_below (by (with_reducible repeat (first | apply Kd.R_alloc | apply Kd.R_drewN | apply Kd.R_drew)); exact HO_407002.out) hb)
     have n7_ := Aside0.mk (Kd.R_below (by (with_reducible repeat (first | apply Kd.R_alloc | apply Kd.R_drewN | apply Kd.R_drew)); exact HO418.out) hb)
     have n8_ := Aside0.mk (Kd.R_below (by (with_reducible repeat (first | apply Kd.R_alloc | apply Kd.R_drewN | apply Kd.R_drew)); exact HO421.out) hb)
     have n9_ := bb BK396 hb
     have n10_ := bb BK397 hb
     have n11_ := bb BK398 hb
     have n12_ := bb BK406 hb
     have n13_ := bs HB hb
     clear HO_397000
     clear HO_397001
     clear HO_397002
     clear HO_398001
     clear HO_398002
     clear HO_407001
     clear HO_407002
     clear HO418
     clear HO421
     clear BK396
     clear BK397
     clear BK398
     clear BK406
     clear HB
     have HO_397000 := n0_
     have HO_397001 := n1_
     have HO_397002 := n2_
     have HO_398001 := n3_
     have HO_398002 := n4_
     have HO_407001 := n5_
     have HO_407002 := n6_
     have HO418 := n7_
     have HO421 := n8_
     have BK396 := n9_
     have BK397 := n10_
     have BK398 := n11_
     have BK406 := n12_
     have HB := n13_
     clear n0_ n1_ n2_ n3_ n4_ n5_ n6_ n7_ n8_ n9_ n10_ n11_ n12_ n13_
     (try clear hb)
     (try clear hb2)
     (try clear hk)
     (try clear hi)
     refine hK.out _ _ ⟨(blk_cell BK406.out 0).trans rfl, (blk_cell BK406.out 1).trans rfl, (blk_cell BK406.out 2).trans rfl, (blk_cell BK396.out 0).trans rfl, (blk_cell BK396.out 1).trans rfl, (blk_cell BK396.out 2).trans rfl, (blk_cell BK397.out 0).trans rfl, (blk_cell BK397.out 1).trans rfl, (blk_cell BK397.out 2).trans rfl, (blk_cell BK398.out 0).trans rfl, (blk_cell BK398.out 1).trans rfl⟩ (fun hHeld => ?_)
     clear hK K
     refine norm_ (a' := ?_) ?_ ?_
     rotate_left
     ·show Act.put _ (some 42) _ = _
      simp only [Act.put, List.setIfInBounds_toArray, List.set_cons_zero, List.set_cons_succ, i64_w, i32_w]
      rfl
     refine pure_ (i := 7) (N := some 2) (v := ?_) (a' := ?_) #[true, true, true, true, true, true, true, true] rfl rfl (any_of HT_.out (by kernel_rfl)) (fun _ _ _ h => h) (Or.inl ⟨by rfl, ?_⟩) ?_ ?_
     rotate_left
     ·intro w'
      go_simp
      with_reducible rfl
     rotate_left
     ·simp only [Act.put, List.setIfInBounds_toArray, List.set_cons_zero, List.set_cons_succ, i64_w, i32_w]
      rfl
     refine done_ (done_of HT_.out (by kernel_rfl)) ?_
     try go_wp2
     go_ret
     exact ⟨by first | rfl | exact congrArg (fun b_ => Ending.returned (Value.bool b_)) HE_.out | (refine absurd HE_.out ?_; simp [*]; done) | (have h_ := HE_.out; clear HE_; simp_all; done) | (have h_ := HE_.out; clear HE_; simp_all; omega) | (simp [errW_none, errW_some] <;> rfl) | (simp [*, errW_none, errW_some] <;> rfl), bw HB⟩
    ·replace c45 := Bool.eq_false_iff.mpr c45
     subst c45
     have H1 : (laws_FnSet.l0 kj5 t393 0 t386 t387 t390 t394 t395 t399 t400 t403) = some true := by rw [if_neg (show ¬ (false = true) by decide)] at H; first | done | exact H
     clear H
     have H := H1
     clear H1
     have H' := Aside0.mk H
     clear H
     go_wp2
     go_loopg [8] kj5 (fun kq v8 w' => ∃ (x8_2 : Int), v8 = .int .i64 x8_2 ∧ Aside0 (laws_FnSet.l0 kq t393 x8_2 t386 t387 t390 t394 t395 t399 t400 t403 = some true) ∧ Aside0 (kq ≤ kj5) ∧ Aside0 (Kd.R Kd.string 9 w' w.heap.size (fun k_ => some k_ ≠ ((.slice Ao15 t380.length co15) : Value).ownBlock) (.slice Ao11 t377.length co11) t377) ∧ Aside0 (Kd.R Kd.string 9 w' w.heap.size (fun k_ => some k_ ≠ ((.slice Ao11 t377.length co11) : Value).ownBlock) (.slice Ao15 t380.length co15) t380) ∧ Aside0 (Kd.R k91 91 w' w.heap.size (fun _ => True) (.slice Ao16 t383.length co16) t383) ∧ Aside0 (Kd.R k78 78 w' w.heap.size (fun k_ => some k_ ≠ ((.slice Ao20 t390.length co20) : Value).ownBlock ∧ some k_ ≠ ((.slice Ao28 t400.length co28) : Value).ownBlock ∧ some k_ ≠ ((.slice Ao29 t403.length co29) : Value).ownBlock ∧ k_ ≠ gb398) (.slice Ao19 t387.length co19) t387) ∧ Aside0 (Kd.R k78 78 w' w.heap.size (fun k_ => some k_ ≠ ((.slice Ao19 t387.length co19) : Value).ownBlock ∧ some k_ ≠ ((.slice Ao28 t400.length co28) : Value).ownBlock ∧ some k_ ≠ ((.slice Ao29 t403.length co29) : Value).ownBlock ∧ k_ ≠ gb398) (.slice Ao20 t390.length co20) t390) ∧ Aside0 (Kd.R k78 78 w' w.heap.size (fun k_ => some k_ ≠ ((.slice Ao19 t387.length co19) : Value).ownBlock ∧ some k_ ≠ ((.slice Ao20 t390.length co20) : Value).ownBlock ∧ some k_ ≠ ((.slice Ao29 t403.length co29) : Value).ownBlock ∧ k_ ≠ gb398) (.slice Ao28 t400.length co28) t400) ∧ Aside0 (Kd.R k78 78 w' w.heap.size (fun k_ => some k_ ≠ ((.slice Ao19 t387.length co19) : Value).ownBlock ∧ some k_ ≠ ((.slice Ao20 t390.length co20) : Value).ownBlock ∧ some k_ ≠ ((.slice Ao28 t400.length co28) : Value).ownBlock ∧ k_ ≠ gb398) (.slice Ao29 t403.length co29) t403) ∧ Aside0 (w'.heap[gb396]? = some (.cells #[(.slice Ao11 t377.length co11), (.slice Ao15 t380.length co15), (.slice Ao16 t383.length co16)] 30 (0, 0))) ∧ Aside0 (w'.heap[gb397]? = some (.cells #[.bool t386, (.slice Ao19 t387.length co19), (.slice Ao20 t390.length co20)] 41 (0, 0))) ∧ Aside0 (w'.heap[gb398]? = some (.cells #[.int .i64 t394, .int .i64 t395] 78 (0, 0))) ∧ Aside0 (w'.heap[gb406]? = some (.cells #[.bool t399, (.slice Ao28 t400.length co28), (.slice Ao29 t403.length co29)] 41 (0, 0))) ∧ Aside0 (Below w.heap.size w w'))
     case atStart => exact ⟨(0), (by first | rfl | (simp; done) | (simp [*]; done)), H', ⟨Nat.le_refl _⟩, ⟨by (with_reducible repeat (first | apply Kd.R_alloc | apply Kd.R_drewN | apply Kd.R_drew)); exact HO_397000.out⟩, ⟨by (with_reducible repeat (first | apply Kd.R_alloc | apply Kd.R_drewN | apply Kd.R_drew)); exact HO_397001.out⟩, ⟨by (with_reducible repeat (first | apply Kd.R_alloc | apply Kd.R_drewN | apply Kd.R_drew)); exact HO_397002.out⟩, ⟨by (with_reducible repeat (first | apply Kd.R_alloc | apply Kd.R_drewN | apply Kd.R_drew)); exact HO_398001.out⟩, ⟨by (with_reducible repeat (first | apply Kd.R_alloc | apply Kd.R_drewN | apply Kd.R_drew)); exact HO_398002.out⟩, ⟨by (with_reducible repeat (first | apply Kd.R_alloc | apply Kd.R_drewN | apply Kd.R_drew)); exact HO_407001.out⟩, ⟨by (with_reducible repeat (first | apply Kd.R_alloc | apply Kd.R_drewN | apply Kd.R_drew)); exact HO_407002.out⟩, ⟨bx BK396⟩, ⟨bx BK397⟩, ⟨bx BK398⟩, ⟨bx BK406⟩, ⟨bw HB⟩⟩
     case round =>
      clear H'
      try clear p2
      try clear c3
      try clear c4
      try clear c32
      try clear c45
      try clear c47
      try clear c48
      try clear p2
      obtain ⟨x8_2, rfl, HA, HK2, HO_397000, HO_397001, HO_397002, HO_398001, HO_398002, HO_407001, HO_407002, BK396, BK397, BK398, BK406, HB⟩ := hrel
      cases gk with
      | zero => exact absurd HA.out (by simp [laws_FnSet.l0])
      | succ k2 =>
       have H := HA.out
       clear HA
       simp only [laws_FnSet.l0] at H
       by_cases c53 : x8_2 < (t400.length : Int)
       ·rw [if_pos c53] at H
        have c53b0 : decide (x8_2 < (t400.length : Int)) = true := decide_eq_true c53
        clear c53
        by_cases c54 : x8_2 = t393
        ·rw [if_pos c54] at H
         have c54b0 : (x8_2 == t393) = true := beq_iff_eq.mpr c54
         have c54b1 : (x8_2 != t393) = false := bne_eq_false_iff_eq.mpr c54
         clear c54
         have H' := Aside0.mk H
         clear H
         have hnb55 := NB406_396.out
         have hnc55 := NB396_406.out
         have hnb56 := NB406_397.out
         have hnc56 := NB397_406.out
         have hnb57 := NB406_398.out
         have hnc57 := NB398_406.out
         have hcz58_0 : wr.cell? ⟨gb406, 0, none⟩ = some (.bool t399) := (blk_cell BK406.out 0).trans rfl
         have hcz58_1 : wr.cell? ⟨gb406, 1, none⟩ = some (.slice Ao28 t400.length co28) := (blk_cell BK406.out 1).trans rfl
         have hcz58_2 : wr.cell? ⟨gb406, 2, none⟩ = some (.slice Ao29 t403.length co29) := (blk_cell BK406.out 2).trans rfl
         have hfz58_0 := blk_frozen BK406.out 0
         have hfz58_1 := blk_frozen BK406.out 1
         have hfz58_2 := blk_frozen BK406.out 2
         try go_wp2
         have n0_ := Aside0.mk (Kd.R_drew HO_397000.out)
         have n1_ := Aside0.mk (Kd.R_drew HO_397001.out)
         have n2_ := Aside0.mk (Kd.R_drew HO_397002.out)
         have n3_ := Aside0.mk (Kd.R_drew HO_398001.out)
         have n4_ := Aside0.mk (Kd.R_drew HO_398002.out)
         have n5_ := Aside0.mk (Kd.R_drew HO_407001.out)
         have n6_ := Aside0.mk (Kd.R_drew HO_407002.out)
         have n7_ := Aside0.mk (blk_drew BK396.out)
         have n8_ := Aside0.mk (blk_drew BK397.out)
         have n9_ := Aside0.mk (blk_drew BK398.out)
         have n10_ := Aside0.mk (blk_drew BK406.out)
         have n11_ := Aside0.mk (below_drew1 HB.out)
         clear HO_397000
         clear HO_397001
         clear HO_397002
         clear HO_398001
         clear HO_398002
         clear HO_407001
         clear HO_407002
         clear BK396
         clear BK397
         clear BK398
         clear BK406
         clear HB
         have HO_397000 := n0_
         have HO_397001 := n1_
         have HO_397002 := n2_
         have HO_398001 := n3_
         have HO_398002 := n4_
         have HO_407001 := n5_
         have HO_407002 := n6_
         have BK396 := n7_
         have BK397 := n8_
         have BK398 := n9_
         have BK406 := n10_
         have HB := n11_
         clear n0_ n1_ n2_ n3_ n4_ n5_ n6_ n7_ n8_ n9_ n10_ n11_
         refine start_ (n := 16) (S := fun w' => True) (ds := []) #[false, false, false, false, false, false, false, false, false, false, false, false, false, false, false, false] (by kernel_rfl) rfl rfl trivial (fun hHeld => ?_); refine with_tabW laws_FnSet.tab10 laws_FnSet.bits10 (fun HT_ HW_ => ?_)
         generalize wr.drew = w59 at HO_397000 HO_397001 HO_397002 HO_398001 HO_398002 HO_407001 HO_407002 BK396 BK397 BK398 BK406 HB hHeld ⊢
         refine pure_ (i := 0) (N := some 50) (v := ?_) (a' := ?_) #[true, false, false, false, false, false, false, false, false, false, false, false, false, false, false, false] rfl rfl (any_of HT_.out (by kernel_rfl)) (fun _ _ _ h => h) (Or.inl ⟨by rfl, ?_⟩) ?_ ?_
         rotate_left
         ·intro w'
          go_simp
          with_reducible rfl
         rotate_left
         ·simp only [Act.put, List.setIfInBounds_toArray, List.set_cons_zero, List.set_cons_succ, i64_w, i32_w]
          rfl
         refine pure_ (i := 1) (N := some 51) (v := ?_) (a' := ?_) #[true, true, false, false, false, false, false, false, false, false, false, false, false, false, false, false] rfl rfl (any_of HT_.out (by kernel_rfl)) (fun _ _ _ h => h) (Or.inl ⟨by rfl, ?_⟩) ?_ ?_
         rotate_left
         ·intro w'
          go_simp
          with_reducible rfl
         rotate_left
         ·simp only [Act.put, List.setIfInBounds_toArray, List.set_cons_zero, List.set_cons_succ, i64_w, i32_w]
          rfl
         refine pure_ (i := 2) (N := some 52) (v := ?_) (a' := ?_) #[true, true, true, false, false, false, false, false, false, false, false, false, false, false, false, false] rfl rfl (any_of HT_.out (by kernel_rfl)) (fun _ _ _ h => h) (Or.inl ⟨by rfl, ?_⟩) ?_ ?_
         rotate_left
         ·intro w'
          go_simp
          with_reducible rfl
         rotate_left
         ·simp only [Act.put, List.setIfInBounds_toArray, List.set_cons_zero, List.set_cons_succ, i64_w, i32_w]
          rfl
         refine pure_ (i := 3) (N := some 53) (v := ?_) (a' := ?_) #[true, true, true, true, false, false, false, false, false, false, false, false, false, false, false, false] rfl rfl (any_of HT_.out (by kernel_rfl)) (fun _ _ _ h => h) (Or.inl ⟨by rfl, ?_⟩) ?_ ?_
         rotate_left
         ·intro w'
          go_simp
          with_reducible rfl
         rotate_left
         ·simp only [Act.put, List.setIfInBounds_toArray, List.set_cons_zero, List.set_cons_succ, i64_w, i32_w]
          rfl
         refine pure_ (i := 4) (N := some 54) (v := undef) (a' := ?_) #[true, true, true, true, true, false, false, false, false, false, false, false, false, false, false, false] rfl rfl (any_of HT_.out (by kernel_rfl)) (fun _ _ _ h => h) (Or.inr ⟨by rfl, rfl⟩) ?_ ?_
         rotate_left
         ·simp only [Act.put, List.setIfInBounds_toArray, List.set_cons_zero, List.set_cons_succ, i64_w, i32_w]
          rfl
         refine pure_ (i := 5) (N := some 55) (v := undef) (a' := ?_) #[true, true, true, true, true, true, false, false, false, false, false, false, false, false, false, false] rfl rfl (any_of HT_.out (by kernel_rfl)) (fun _ _ _ h => h) (Or.inr ⟨by rfl, rfl⟩) ?_ ?_
         rotate_left
         ·simp only [Act.put, List.setIfInBounds_toArray, List.set_cons_zero, List.set_cons_succ, i64_w, i32_w]
          rfl
         refine pure_ (i := 6) (N := some 56) (v := undef) (a' := ?_) #[true, true, true, true, true, true, true, false, false, false, false, false, false, false, false, false] rfl rfl (any_of HT_.out (by kernel_rfl)) (fun _ _ _ h => h) (Or.inr ⟨by rfl, rfl⟩) ?_ ?_
         rotate_left
         ·simp only [Act.put, List.setIfInBounds_toArray, List.set_cons_zero, List.set_cons_succ, i64_w, i32_w]
          rfl
         refine pure_ (i := 7) (N := some 57) (v := undef) (a' := ?_) #[true, true, true, true, true, true, true, true, false, false, false, false, false, false, false, false] rfl rfl (any_of HT_.out (by kernel_rfl)) (fun _ _ _ h => h) (Or.inr ⟨by rfl, rfl⟩) ?_ ?_
         rotate_left
         ·simp only [Act.put, List.setIfInBounds_toArray, List.set_cons_zero, List.set_cons_succ, i64_w, i32_w]
          rfl
         refine pure_ (i := 8) (N := some 58) (v := undef) (a' := ?_) #[true, true, true, true, true, true, true, true, true, false, false, false, false, false, false, false] rfl rfl (any_of HT_.out (by kernel_rfl)) (fun _ _ _ h => h) (Or.inr ⟨by rfl, rfl⟩) ?_ ?_
         rotate_left
         ·simp only [Act.put, List.setIfInBounds_toArray, List.set_cons_zero, List.set_cons_succ, i64_w, i32_w]
          rfl
         refine pure_ (i := 9) (N := some 59) (v := undef) (a' := ?_) #[true, true, true, true, true, true, true, true, true, true, false, false, false, false, false, false] rfl rfl (any_of HT_.out (by kernel_rfl)) (fun _ _ _ h => h) (Or.inr ⟨by rfl, rfl⟩) ?_ ?_
         rotate_left
         ·simp only [Act.put, List.setIfInBounds_toArray, List.set_cons_zero, List.set_cons_succ, i64_w, i32_w]
          rfl
         refine pure_ (i := 10) (N := some 60) (v := undef) (a' := ?_) #[true, true, true, true, true, true, true, true, true, true, true, false, false, false, false, false] rfl rfl (any_of HT_.out (by kernel_rfl)) (fun _ _ _ h => h) (Or.inr ⟨by rfl, rfl⟩) ?_ ?_
         rotate_left
         ·simp only [Act.put, List.setIfInBounds_toArray, List.set_cons_zero, List.set_cons_succ, i64_w, i32_w]
          rfl
         refine pure_ (i := 11) (N := some 61) (v := undef) (a' := ?_) #[true, true, true, true, true, true, true, true, true, true, true, true, false, false, false, false] rfl rfl (any_of HT_.out (by kernel_rfl)) (fun _ _ _ h => h) (Or.inr ⟨by rfl, rfl⟩) ?_ ?_
         rotate_left
         ·simp only [Act.put, List.setIfInBounds_toArray, List.set_cons_zero, List.set_cons_succ, i64_w, i32_w]
          rfl
         refine pure_ (i := 12) (N := some 62) (v := undef) (a' := ?_) #[true, true, true, true, true, true, true, true, true, true, true, true, true, false, false, false] rfl rfl (any_of HT_.out (by kernel_rfl)) (fun _ _ _ h => h) (Or.inr ⟨by rfl, rfl⟩) ?_ ?_
         rotate_left
         ·simp only [Act.put, List.setIfInBounds_toArray, List.set_cons_zero, List.set_cons_succ, i64_w, i32_w]
          rfl
         refine pure_ (i := 13) (N := some 63) (v := undef) (a' := ?_) #[true, true, true, true, true, true, true, true, true, true, true, true, true, true, false, false] rfl rfl (any_of HT_.out (by kernel_rfl)) (fun _ _ _ h => h) (Or.inr ⟨by rfl, rfl⟩) ?_ ?_
         rotate_left
         ·simp only [Act.put, List.setIfInBounds_toArray, List.set_cons_zero, List.set_cons_succ, i64_w, i32_w]
          rfl
         refine pure_ (i := 14) (N := some 64) (v := undef) (a' := ?_) #[true, true, true, true, true, true, true, true, true, true, true, true, true, true, true, false] rfl rfl (any_of HT_.out (by kernel_rfl)) (fun _ _ _ h => h) (Or.inr ⟨by rfl, rfl⟩) ?_ ?_
         rotate_left
         ·simp only [Act.put, List.setIfInBounds_toArray, List.set_cons_zero, List.set_cons_succ, i64_w, i32_w]
          rfl
         refine pure_ (i := 15) (N := some 65) (v := ?_) (a' := ?_) #[true, true, true, true, true, true, true, true, true, true, true, true, true, true, true, true] rfl rfl (any_of HT_.out (by kernel_rfl)) (fun _ _ _ h => h) (Or.inl ⟨by rfl, ?_⟩) ?_ ?_
         rotate_left
         ·intro w'
          go_simp
          with_reducible rfl
         rotate_left
         ·simp only [Act.put, List.setIfInBounds_toArray, List.set_cons_zero, List.set_cons_succ, i64_w, i32_w]
          rfl
         refine done_ (done_of HT_.out (by kernel_rfl)) ?_
         try go_wp2
         go_roundg k2
         case measure => have := HJ5.out; have := HK2.out; omega
         case rel => exact ⟨(wrap64 (x8_2 + 1)), (by first | rfl | (simp; done) | (simp [*]; done)), H', ⟨by have := HJ5.out; have := HK2.out; omega⟩, ⟨by (with_reducible repeat (first | apply Kd.R_alloc | apply Kd.R_drewN | apply Kd.R_drew)); exact HO_397000.out⟩, ⟨by (with_reducible repeat (first | apply Kd.R_alloc | apply Kd.R_drewN | apply Kd.R_drew)); exact HO_397001.out⟩, ⟨by (with_reducible repeat (first | apply Kd.R_alloc | apply Kd.R_drewN | apply Kd.R_drew)); exact HO_397002.out⟩, ⟨by (with_reducible repeat (first | apply Kd.R_alloc | apply Kd.R_drewN | apply Kd.R_drew)); exact HO_398001.out⟩, ⟨by (with_reducible repeat (first | apply Kd.R_alloc | apply Kd.R_drewN | apply Kd.R_drew)); exact HO_398002.out⟩, ⟨by (with_reducible repeat (first | apply Kd.R_alloc | apply Kd.R_drewN | apply Kd.R_drew)); exact HO_407001.out⟩, ⟨by (with_reducible repeat (first | apply Kd.R_alloc | apply Kd.R_drewN | apply Kd.R_drew)); exact HO_407002.out⟩, ⟨bx BK396⟩, ⟨bx BK397⟩, ⟨bx BK398⟩, ⟨bx BK406⟩, ⟨bw HB⟩⟩
        ·rw [if_neg c54] at H
         have c54b0 : (x8_2 == t393) = false := beq_eq_false_iff_ne.mpr c54
         have c54b1 : (x8_2 != t393) = true := bne_iff_ne.mpr c54
         by_cases c60 : 0 ≤ x8_2
         ·rw [if_pos c60] at H
          have c60b0 : decide (0 ≤ x8_2) = true := decide_eq_true c60
          clear c60
          by_cases c61 : x8_2 < (t387.length : Int)
          ·rw [if_pos c61] at H
           have c61b0 : decide (x8_2 < (t387.length : Int)) = true := decide_eq_true c61
           clear c61
           by_cases c62 : (!(((rd_T78 t400 x8_2).f0) == ((rd_T78 t387 x8_2).f0)) || (!(((rd_T78 t400 x8_2).f1) == ((rd_T78 t387 x8_2).f1)))) = true
           ·rw [if_pos c62] at H
            have c62b0 : (!(((rd_T78 t400 x8_2).f0) == ((rd_T78 t387 x8_2).f0)) || (!(((rd_T78 t400 x8_2).f1) == ((rd_T78 t387 x8_2).f1)))) = true := c62
            clear c62
            exact absurd (Option.some.inj H) (by decide)
           ·rw [if_neg c62] at H
            have c62b0 : (!(((rd_T78 t400 x8_2).f0) == ((rd_T78 t387 x8_2).f0)) || (!(((rd_T78 t400 x8_2).f1) == ((rd_T78 t387 x8_2).f1)))) = false := by simpa using c62
            clear c62
            have H' := Aside0.mk H
            clear H
            have hnb63 := NB406_396.out
            have hnc63 := NB396_406.out
            have hnb64 := NB406_397.out
            have hnc64 := NB397_406.out
            have hnb65 := NB406_398.out
            have hnc65 := NB398_406.out
            have hcz66_0 : wr.cell? ⟨gb406, 0, none⟩ = some (.bool t399) := (blk_cell BK406.out 0).trans rfl
            have hcz66_1 : wr.cell? ⟨gb406, 1, none⟩ = some (.slice Ao28 t400.length co28) := (blk_cell BK406.out 1).trans rfl
            have hcz66_2 : wr.cell? ⟨gb406, 2, none⟩ = some (.slice Ao29 t403.length co29) := (blk_cell BK406.out 2).trans rfl
            have hfz66_0 := blk_frozen BK406.out 0
            have hfz66_1 := blk_frozen BK406.out 1
            have hfz66_2 := blk_frozen BK406.out 2
            try go_wp2
            have n0_ := Aside0.mk (Kd.R_drew HO_397000.out)
            have n1_ := Aside0.mk (Kd.R_drew HO_397001.out)
            have n2_ := Aside0.mk (Kd.R_drew HO_397002.out)
            have n3_ := Aside0.mk (Kd.R_drew HO_398001.out)
            have n4_ := Aside0.mk (Kd.R_drew HO_398002.out)
            have n5_ := Aside0.mk (Kd.R_drew HO_407001.out)
            have n6_ := Aside0.mk (Kd.R_drew HO_407002.out)
            have n7_ := Aside0.mk (blk_drew BK396.out)
            have n8_ := Aside0.mk (blk_drew BK397.out)
            have n9_ := Aside0.mk (blk_drew BK398.out)
            have n10_ := Aside0.mk (blk_drew BK406.out)
            have n11_ := Aside0.mk (below_drew1 HB.out)
            clear HO_397000
            clear HO_397001
            clear HO_397002
            clear HO_398001
            clear HO_398002
            clear HO_407001
            clear HO_407002
            clear BK396
            clear BK397
            clear BK398
            clear BK406
            clear HB
            have HO_397000 := n0_
            have HO_397001 := n1_
            have HO_397002 := n2_
            have HO_398001 := n3_
            have HO_398002 := n4_
            have HO_407001 := n5_
            have HO_407002 := n6_
            have BK396 := n7_
            have BK397 := n8_
            have BK398 := n9_
            have BK406 := n10_
            have HB := n11_
            clear n0_ n1_ n2_ n3_ n4_ n5_ n6_ n7_ n8_ n9_ n10_ n11_
            have p423 : 0 ≤ (x8_2 : Int) := of_decide_eq_true (by first | (with_reducible assumption) | assumption)
            have q423 : x8_2 < (t400.length : Int) := of_decide_eq_true (by first | (with_reducible assumption) | assumption)
            obtain ⟨ad423, e423, hx423_0, hx423_1⟩ := at_T78 (Kd.R_reads' HO_407001.out).2.2 x8_2 p423 q423
            cases e423
            replace p423 := eq_true p423
            replace q423 := eq_true q423
            have p424 : 0 ≤ (x8_2 : Int) := of_decide_eq_true (by first | (with_reducible assumption) | assumption)
            have q424 : x8_2 < (t387.length : Int) := of_decide_eq_true (by first | (with_reducible assumption) | assumption)
            obtain ⟨ad424, e424, hx424_0, hx424_1⟩ := at_T78 (Kd.R_reads' HO_398001.out).2.2 x8_2 p424 q424
            cases e424
            replace p424 := eq_true p424
            replace q424 := eq_true q424
            refine start_ (n := 16) (S := fun w' => w'.cell? ⟨gb406, 0, none⟩ = some (.bool t399) ∧ w'.cell? ⟨gb406, 1, none⟩ = some (.slice (some ad423) t400.length co28) ∧ w'.cell? ⟨gb406, 2, none⟩ = some (.slice Ao29 t403.length co29) ∧ w'.cell? ⟨gb397, 0, none⟩ = some (.bool t386) ∧ w'.cell? ⟨gb397, 1, none⟩ = some (.slice (some ad424) t387.length co19) ∧ w'.cell? ⟨gb397, 2, none⟩ = some (.slice Ao20 t390.length co20) ∧ w'.cell? (ad423.add ((x8_2).toNat * 2)) = some (.int .i64 ((rd_T78 t400 x8_2).f0)) ∧ w'.cell? ⟨(ad423.add ((x8_2).toNat * 2)).block, (ad423.add ((x8_2).toNat * 2)).off + 1, none⟩ = some (.int .i64 ((rd_T78 t400 x8_2).f1)) ∧ w'.cell? (ad424.add ((x8_2).toNat * 2)) = some (.int .i64 ((rd_T78 t387 x8_2).f0)) ∧ w'.cell? ⟨(ad424.add ((x8_2).toNat * 2)).block, (ad424.add ((x8_2).toNat * 2)).off + 1, none⟩ = some (.int .i64 ((rd_T78 t387 x8_2).f1))) (ds := []) #[false, false, false, false, false, false, false, false, false, false, false, false, false, false, false, false] (by kernel_rfl) rfl rfl ⟨(blk_cell BK406.out 0).trans rfl, (blk_cell BK406.out 1).trans rfl, (blk_cell BK406.out 2).trans rfl, (blk_cell BK397.out 0).trans rfl, (blk_cell BK397.out 1).trans rfl, (blk_cell BK397.out 2).trans rfl, hx423_0, hx423_1, hx424_0, hx424_1⟩ (fun hHeld => ?_); refine with_tabW laws_FnSet.tab10 laws_FnSet.bits10 (fun HT_ HW_ => ?_)
            generalize wr.drew = w67 at HO_397000 HO_397001 HO_397002 HO_398001 HO_398002 HO_407001 HO_407002 BK396 BK397 BK398 BK406 HB hx423_0 hx423_1 hx424_0 hx424_1 hHeld ⊢
            refine pure_ (i := 0) (N := some 50) (v := ?_) (a' := ?_) #[true, false, false, false, false, false, false, false, false, false, false, false, false, false, false, false] rfl rfl (any_of HT_.out (by kernel_rfl)) (fun _ _ _ h => h) (Or.inl ⟨by rfl, ?_⟩) ?_ ?_
            rotate_left
            ·intro w'
             go_simp
             with_reducible rfl
            rotate_left
            ·simp only [Act.put, List.setIfInBounds_toArray, List.set_cons_zero, List.set_cons_succ, i64_w, i32_w]
             rfl
            refine pure_ (i := 1) (N := some 51) (v := ?_) (a' := ?_) #[true, true, false, false, false, false, false, false, false, false, false, false, false, false, false, false] rfl rfl (any_of HT_.out (by kernel_rfl)) (fun _ _ _ h => h) (Or.inl ⟨by rfl, ?_⟩) ?_ ?_
            rotate_left
            ·intro w'
             go_simp
             with_reducible rfl
            rotate_left
            ·simp only [Act.put, List.setIfInBounds_toArray, List.set_cons_zero, List.set_cons_succ, i64_w, i32_w]
             rfl
            refine pure_ (i := 2) (N := some 52) (v := ?_) (a' := ?_) #[true, true, true, false, false, false, false, false, false, false, false, false, false, false, false, false] rfl rfl (any_of HT_.out (by kernel_rfl)) (fun _ _ _ h => h) (Or.inl ⟨by rfl, ?_⟩) ?_ ?_
            rotate_left
            ·intro w'
             go_simp
             with_reducible rfl
            rotate_left
            ·simp only [Act.put, List.setIfInBounds_toArray, List.set_cons_zero, List.set_cons_succ, i64_w, i32_w]
             rfl
            refine pure_ (i := 3) (N := some 53) (v := ?_) (a' := ?_) #[true, true, true, true, false, false, false, false, false, false, false, false, false, false, false, false] rfl rfl (any_of HT_.out (by kernel_rfl)) (fun _ _ _ h => h) (Or.inl ⟨by rfl, ?_⟩) ?_ ?_
            rotate_left
            ·intro w'
             go_simp
             with_reducible rfl
            rotate_left
            ·simp only [Act.put, List.setIfInBounds_toArray, List.set_cons_zero, List.set_cons_succ, i64_w, i32_w]
             rfl
            refine pure_ (i := 4) (N := some 54) (v := ?_) (a' := ?_) #[true, true, true, true, true, false, false, false, false, false, false, false, false, false, false, false] rfl rfl (any_of HT_.out (by kernel_rfl)) (fun _ _ _ h => h) (Or.inl ⟨by rfl, ?_⟩) ?_ ?_
            rotate_left
            ·intro w'
             go_simp
             with_reducible rfl
            rotate_left
            ·simp only [Act.put, List.setIfInBounds_toArray, List.set_cons_zero, List.set_cons_succ, i64_w, i32_w]
             rfl
            refine pure_ (i := 6) (N := some 56) (v := ?_) (a' := ?_) #[true, true, true, true, true, false, true, false, false, false, false, false, false, false, false, false] rfl rfl (any_of HT_.out (by kernel_rfl)) (fun _ _ _ h => h) (Or.inl ⟨by rfl, ?_⟩) ?_ ?_
            rotate_left
            ·intro w'
             go_simp
             with_reducible rfl
            rotate_left
            ·simp only [Act.put, List.setIfInBounds_toArray, List.set_cons_zero, List.set_cons_succ, i64_w, i32_w]
             rfl
            refine pure_ (i := 9) (N := some 59) (v := ?_) (a' := ?_) #[true, true, true, true, true, false, true, false, false, true, false, false, false, false, false, false] rfl rfl (any_of HT_.out (by kernel_rfl)) (fun _ _ _ h => h) (Or.inl ⟨by rfl, ?_⟩) ?_ ?_
            rotate_left
            ·intro w'
             go_simp
             with_reducible rfl
            rotate_left
            ·simp only [Act.put, List.setIfInBounds_toArray, List.set_cons_zero, List.set_cons_succ, i64_w, i32_w]
             rfl
            refine pure_ (i := 11) (N := some 61) (v := ?_) (a' := ?_) #[true, true, true, true, true, false, true, false, false, true, false, true, false, false, false, false] rfl rfl (any_of HT_.out (by kernel_rfl)) (fun _ _ _ h => h) (Or.inl ⟨by rfl, ?_⟩) ?_ ?_
            rotate_left
            ·intro w'
             go_simp
             with_reducible rfl
            rotate_left
            ·simp only [Act.put, List.setIfInBounds_toArray, List.set_cons_zero, List.set_cons_succ, i64_w, i32_w]
             rfl
            refine take_ (i := 5) (N := some 55) (v := ?_) (a' := ?_) #[true, true, true, true, true, true, true, false, false, true, false, true, false, false, false, false] rfl rfl (take_ofW HT_.out HW_.out (by kernel_rfl)) (fun _ _ _ h => h) (Or.inl ⟨by rfl, ?_⟩) hHeld ?_ ?_
            rotate_left
            ·rintro w' ⟨s0, s1, s2, s3, s4, s5, s6, s7, s8, s9⟩
             go_simp
             with_reducible rfl
            rotate_left
            ·simp only [Act.put, List.setIfInBounds_toArray, List.set_cons_zero, List.set_cons_succ, i64_w, i32_w]
             rfl
            refine pure_ (i := 7) (N := some 57) (v := ?_) (a' := ?_) #[true, true, true, true, true, true, true, true, false, true, false, true, false, false, false, false] rfl rfl (any_of HT_.out (by kernel_rfl)) (fun _ _ _ h => h) (Or.inl ⟨by rfl, ?_⟩) ?_ ?_
            rotate_left
            ·intro w'
             go_simp
             with_reducible rfl
            rotate_left
            ·simp only [Act.put, List.setIfInBounds_toArray, List.set_cons_zero, List.set_cons_succ, i64_w, i32_w]
             rfl
            refine take_ (i := 8) (N := some 58) (v := ?_) (a' := ?_) #[true, true, true, true, true, true, true, true, true, true, false, true, false, false, false, false] rfl rfl (take_ofW HT_.out HW_.out (by kernel_rfl)) (fun _ _ _ h => h) (Or.inl ⟨by rfl, ?_⟩) hHeld ?_ ?_
            rotate_left
            ·rintro w' ⟨s0, s1, s2, s3, s4, s5, s6, s7, s8, s9⟩
             go_simp
             with_reducible rfl
            rotate_left
            ·simp only [Act.put, List.setIfInBounds_toArray, List.set_cons_zero, List.set_cons_succ, i64_w, i32_w]
             rfl
            refine take_ (i := 10) (N := some 60) (v := ?_) (a' := ?_) #[true, true, true, true, true, true, true, true, true, true, true, true, false, false, false, false] rfl rfl (take_ofW HT_.out HW_.out (by kernel_rfl)) (fun _ _ _ h => h) (Or.inl ⟨by rfl, ?_⟩) hHeld ?_ ?_
            rotate_left
            ·rintro w' ⟨s0, s1, s2, s3, s4, s5, s6, s7, s8, s9⟩
             go_simp
             with_reducible rfl
            rotate_left
            ·simp only [Act.put, List.setIfInBounds_toArray, List.set_cons_zero, List.set_cons_succ, i64_w, i32_w]
             rfl
            refine pure_ (i := 12) (N := some 62) (v := ?_) (a' := ?_) #[true, true, true, true, true, true, true, true, true, true, true, true, true, false, false, false] rfl rfl (any_of HT_.out (by kernel_rfl)) (fun _ _ _ h => h) (Or.inl ⟨by rfl, ?_⟩) ?_ ?_
            rotate_left
            ·intro w'
             go_simp
             with_reducible rfl
            rotate_left
            ·simp only [Act.put, List.setIfInBounds_toArray, List.set_cons_zero, List.set_cons_succ, i64_w, i32_w]
             rfl
            refine take_ (i := 13) (N := some 63) (v := ?_) (a' := ?_) #[true, true, true, true, true, true, true, true, true, true, true, true, true, true, false, false] rfl rfl (take_ofW HT_.out HW_.out (by kernel_rfl)) (fun _ _ _ h => h) (Or.inl ⟨by rfl, ?_⟩) hHeld ?_ ?_
            rotate_left
            ·rintro w' ⟨s0, s1, s2, s3, s4, s5, s6, s7, s8, s9⟩
             go_simp
             with_reducible rfl
            rotate_left
            ·simp only [Act.put, List.setIfInBounds_toArray, List.set_cons_zero, List.set_cons_succ, i64_w, i32_w]
             rfl
            refine pure_ (i := 14) (N := some 64) (v := ?_) (a' := ?_) #[true, true, true, true, true, true, true, true, true, true, true, true, true, true, true, false] rfl rfl (any_of HT_.out (by kernel_rfl)) (fun _ _ _ h => h) (Or.inl ⟨by rfl, ?_⟩) ?_ ?_
            rotate_left
            ·intro w'
             go_simp
             with_reducible rfl
            rotate_left
            ·simp only [Act.put, List.setIfInBounds_toArray, List.set_cons_zero, List.set_cons_succ, i64_w, i32_w]
             rfl
            refine pure_ (i := 15) (N := some 65) (v := ?_) (a' := ?_) #[true, true, true, true, true, true, true, true, true, true, true, true, true, true, true, true] rfl rfl (any_of HT_.out (by kernel_rfl)) (fun _ _ _ h => h) (Or.inl ⟨by rfl, ?_⟩) ?_ ?_
            rotate_left
            ·intro w'
             go_simp
             with_reducible rfl
            rotate_left
            ·simp only [Act.put, List.setIfInBounds_toArray, List.set_cons_zero, List.set_cons_succ, i64_w, i32_w]
             rfl
            refine done_ (done_of HT_.out (by kernel_rfl)) ?_
            try go_wp2
            go_roundg k2
            case measure => have := HJ5.out; have := HK2.out; omega
            case rel => exact ⟨(wrap64 (x8_2 + 1)), (by first | rfl | (simp; done) | (simp [*]; done)), H', ⟨by have := HJ5.out; have := HK2.out; omega⟩, ⟨by (with_reducible repeat (first | apply Kd.R_alloc | apply Kd.R_drewN | apply Kd.R_drew)); exact HO_397000.out⟩, ⟨by (with_reducible repeat (first | apply Kd.R_alloc | apply Kd.R_drewN | apply Kd.R_drew)); exact HO_397001.out⟩, ⟨by (with_reducible repeat (first | apply Kd.R_alloc | apply Kd.R_drewN | apply Kd.R_drew)); exact HO_397002.out⟩, ⟨by (with_reducible repeat (first | apply Kd.R_alloc | apply Kd.R_drewN | apply Kd.R_drew)); exact HO_398001.out⟩, ⟨by (with_reducible repeat (first | apply Kd.R_alloc | apply Kd.R_drewN | apply Kd.R_drew)); exact HO_398002.out⟩, ⟨by (with_reducible repeat (first | apply Kd.R_alloc | apply Kd.R_drewN | apply Kd.R_drew)); exact HO_407001.out⟩, ⟨by (with_reducible repeat (first | apply Kd.R_alloc | apply Kd.R_drewN | apply Kd.R_drew)); exact HO_407002.out⟩, ⟨bx BK396⟩, ⟨bx BK397⟩, ⟨bx BK398⟩, ⟨bx BK406⟩, ⟨bw HB⟩⟩
          ·rw [if_neg c61] at H
           exact absurd H (by simp)
         ·rw [if_neg c60] at H
          exact absurd H (by simp)
       ·rw [if_neg c53] at H
        have c53b0 : decide (x8_2 < (t400.length : Int)) = false := decide_eq_false c53
        clear c53
        by_cases c68 : 0 ≤ t393
        ·rw [if_pos c68] at H
         have c68b0 : decide (0 ≤ t393) = true := decide_eq_true c68
         clear c68
         by_cases c69 : t393 < (t400.length : Int)
         ·rw [if_pos c69] at H
          have c69b0 : decide (t393 < (t400.length : Int)) = true := decide_eq_true c69
          clear c69
          by_cases c70 : (((rd_T78 t400 t393).f0) == t394 && (((rd_T78 t400 t393).f1) == t395)) = true
          ·rw [if_pos c70] at H
           have c70b0 : (((rd_T78 t400 t393).f0) == t394 && (((rd_T78 t400 t393).f1) == t395)) = true := c70
           (try (have c70b1 : decide (((rd_T78 t400 t393).f0) = t394 && (((rd_T78 t400 t393).f1) == t395)) = true := by simpa using c70))
           (try (have c70b2 : (((rd_T78 t400 t393).f0) == t394 && (((rd_T78 t400 t393).f1) == t395)) = true := by simpa using c70))
           clear c70
           replace H := Option.bind_eq_some_iff.mp H
           obtain ⟨t426, A710, H⟩ := H
           replace H : (if t426 = true then (some ((t400.length : Int) == (t387.length : Int))) else (some false)) = some true := H
           have A71 := Aside0.mk A710
           clear A710
           by_cases c72 : t426 = true
           ·subst c72
            have H1 : (some ((t400.length : Int) == (t387.length : Int))) = some true := by rw [if_pos rfl] at H; first | done | exact H
            clear H
            have H := H1
            clear H1
            have HE_ := Aside0.mk (Option.some.inj H)
            clear H
            have hnb73 := NB406_396.out
            have hnc73 := NB396_406.out
            have hnb74 := NB406_397.out
            have hnc74 := NB397_406.out
            have hnb75 := NB406_398.out
            have hnc75 := NB398_406.out
            have hcz76_0 : wr.cell? ⟨gb406, 0, none⟩ = some (.bool t399) := (blk_cell BK406.out 0).trans rfl
            have hcz76_1 : wr.cell? ⟨gb406, 1, none⟩ = some (.slice Ao28 t400.length co28) := (blk_cell BK406.out 1).trans rfl
            have hcz76_2 : wr.cell? ⟨gb406, 2, none⟩ = some (.slice Ao29 t403.length co29) := (blk_cell BK406.out 2).trans rfl
            have hfz76_0 := blk_frozen BK406.out 0
            have hfz76_1 := blk_frozen BK406.out 1
            have hfz76_2 := blk_frozen BK406.out 2
            try go_wp2
            have n0_ := Aside0.mk (Kd.R_drew HO_397000.out)
            have n1_ := Aside0.mk (Kd.R_drew HO_397001.out)
            have n2_ := Aside0.mk (Kd.R_drew HO_397002.out)
            have n3_ := Aside0.mk (Kd.R_drew HO_398001.out)
            have n4_ := Aside0.mk (Kd.R_drew HO_398002.out)
            have n5_ := Aside0.mk (Kd.R_drew HO_407001.out)
            have n6_ := Aside0.mk (Kd.R_drew HO_407002.out)
            have n7_ := Aside0.mk (blk_drew BK396.out)
            have n8_ := Aside0.mk (blk_drew BK397.out)
            have n9_ := Aside0.mk (blk_drew BK398.out)
            have n10_ := Aside0.mk (blk_drew BK406.out)
            have n11_ := Aside0.mk (below_drew1 HB.out)
            clear HO_397000
            clear HO_397001
            clear HO_397002
            clear HO_398001
            clear HO_398002
            clear HO_407001
            clear HO_407002
            clear BK396
            clear BK397
            clear BK398
            clear BK406
            clear HB
            have HO_397000 := n0_
            have HO_397001 := n1_
            have HO_397002 := n2_
            have HO_398001 := n3_
            have HO_398002 := n4_
            have HO_407001 := n5_
            have HO_407002 := n6_
            have BK396 := n7_
            have BK397 := n8_
            have BK398 := n9_
            have BK406 := n10_
            have HB := n11_
            clear n0_ n1_ n2_ n3_ n4_ n5_ n6_ n7_ n8_ n9_ n10_ n11_
            have p425 : 0 ≤ (t393 : Int) := of_decide_eq_true (by first | (with_reducible assumption) | assumption)
            have q425 : t393 < (t400.length : Int) := of_decide_eq_true (by first | (with_reducible assumption) | assumption)
            obtain ⟨ad425, e425, hx425_0, hx425_1⟩ := at_T78 (Kd.R_reads' HO_407001.out).2.2 t393 p425 q425
            cases e425
            replace p425 := eq_true p425
            replace q425 := eq_true q425
            refine start_ (n := 24) (S := fun w' => w'.cell? ⟨gb406, 0, none⟩ = some (.bool t399) ∧ w'.cell? ⟨gb406, 1, none⟩ = some (.slice (some ad425) t400.length co28) ∧ w'.cell? ⟨gb406, 2, none⟩ = some (.slice Ao29 t403.length co29) ∧ w'.cell? ⟨gb398, 0, none⟩ = some (.int .i64 t394) ∧ w'.cell? ⟨gb398, 1, none⟩ = some (.int .i64 t395) ∧ w'.cell? ⟨gb397, 0, none⟩ = some (.bool t386) ∧ w'.cell? ⟨gb397, 1, none⟩ = some (.slice Ao19 t387.length co19) ∧ w'.cell? ⟨gb397, 2, none⟩ = some (.slice Ao20 t390.length co20) ∧ w'.cell? (ad425.add ((t393).toNat * 2)) = some (.int .i64 ((rd_T78 t400 t393).f0)) ∧ w'.cell? ⟨(ad425.add ((t393).toNat * 2)).block, (ad425.add ((t393).toNat * 2)).off + 1, none⟩ = some (.int .i64 ((rd_T78 t400 t393).f1))) (ds := []) #[false, false, false, false, false, false, false, false, false, false, false, false, false, false, false, false, false, false, false, false, false, false, false, false] (by kernel_rfl) rfl rfl ⟨(blk_cell BK406.out 0).trans rfl, (blk_cell BK406.out 1).trans rfl, (blk_cell BK406.out 2).trans rfl, (blk_cell BK398.out 0).trans rfl, (blk_cell BK398.out 1).trans rfl, (blk_cell BK397.out 0).trans rfl, (blk_cell BK397.out 1).trans rfl, (blk_cell BK397.out 2).trans rfl, hx425_0, hx425_1⟩ (fun hHeld => ?_); refine with_tabW laws_FnSet.tab12 laws_FnSet.bits12 (fun HT_ HW_ => ?_)
            generalize wr.drew = w77 at HO_397000 HO_397001 HO_397002 HO_398001 HO_398002 HO_407001 HO_407002 BK396 BK397 BK398 BK406 HB hx425_0 hx425_1 hHeld ⊢
            refine pure_ (i := 0) (N := some 66) (v := ?_) (a' := ?_) #[true, false, false, false, false, false, false, false, false, false, false, false, false, false, false, false, false, false, false, false, false, false, false, false] rfl rfl (any_of HT_.out (by kernel_rfl)) (fun _ _ _ h => h) (Or.inl ⟨by rfl, ?_⟩) ?_ ?_
            rotate_left
            ·intro w'
             go_simp
             with_reducible rfl
            rotate_left
            ·simp only [Act.put, List.setIfInBounds_toArray, List.set_cons_zero, List.set_cons_succ, i64_w, i32_w]
             rfl
            refine pure_ (i := 2) (N := some 68) (v := ?_) (a' := ?_) #[true, false, true, false, false, false, false, false, false, false, false, false, false, false, false, false, false, false, false, false, false, false, false, false] rfl rfl (any_of HT_.out (by kernel_rfl)) (fun _ _ _ h => h) (Or.inl ⟨by rfl, ?_⟩) ?_ ?_
            rotate_left
            ·intro w'
             go_simp
             with_reducible rfl
            rotate_left
            ·simp only [Act.put, List.setIfInBounds_toArray, List.set_cons_zero, List.set_cons_succ, i64_w, i32_w]
             rfl
            refine take_ (i := 1) (N := some 67) (v := ?_) (a' := ?_) #[true, true, true, false, false, false, false, false, false, false, false, false, false, false, false, false, false, false, false, false, false, false, false, false] rfl rfl (take_ofW HT_.out HW_.out (by kernel_rfl)) (fun _ _ _ h => h) (Or.inl ⟨by rfl, ?_⟩) hHeld ?_ ?_
            rotate_left
            ·rintro w' ⟨s0, s1, s2, s3, s4, s5, s6, s7, s8, s9⟩
             go_simp
             with_reducible rfl
            rotate_left
            ·simp only [Act.put, List.setIfInBounds_toArray, List.set_cons_zero, List.set_cons_succ, i64_w, i32_w]
             rfl
            refine pure_ (i := 3) (N := some 69) (v := ?_) (a' := ?_) #[true, true, true, true, false, false, false, false, false, false, false, false, false, false, false, false, false, false, false, false, false, false, false, false] rfl rfl (any_of HT_.out (by kernel_rfl)) (fun _ _ _ h => h) (Or.inl ⟨by rfl, ?_⟩) ?_ ?_
            rotate_left
            ·intro w'
             go_simp
             with_reducible rfl
            rotate_left
            ·simp only [Act.put, List.setIfInBounds_toArray, List.set_cons_zero, List.set_cons_succ, i64_w, i32_w]
             rfl
            refine take_ (i := 4) (N := some 70) (v := ?_) (a' := ?_) #[true, true, true, true, true, false, false, false, false, false, false, false, false, false, false, false, false, false, false, false, false, false, false, false] rfl rfl (take_ofW HT_.out HW_.out (by kernel_rfl)) (fun _ _ _ h => h) (Or.inl ⟨by rfl, ?_⟩) hHeld ?_ ?_
            rotate_left
            ·rintro w' ⟨s0, s1, s2, s3, s4, s5, s6, s7, s8, s9⟩
             go_simp
             with_reducible rfl
            rotate_left
            ·simp only [Act.put, List.setIfInBounds_toArray, List.set_cons_zero, List.set_cons_succ, i64_w, i32_w]
             rfl
            refine take_ (i := 5) (N := some 71) (v := ?_) (a' := ?_) #[true, true, true, true, true, true, false, false, false, false, false, false, false, false, false, false, false, false, false, false, false, false, false, false] rfl rfl (take_ofW HT_.out HW_.out (by kernel_rfl)) (fun _ _ _ h => h) (Or.inl ⟨by rfl, ?_⟩) hHeld ?_ ?_
            rotate_left
            ·rintro w' ⟨s0, s1, s2, s3, s4, s5, s6, s7, s8, s9⟩
             go_simp
             with_reducible rfl
            rotate_left
            ·simp only [Act.put, List.setIfInBounds_toArray, List.set_cons_zero, List.set_cons_succ, i64_w, i32_w]
             rfl
            refine pure_ (i := 6) (N := some 72) (v := ?_) (a' := ?_) #[true, true, true, true, true, true, true, false, false, false, false, false, false, false, false, false, false, false, false, false, false, false, false, false] rfl rfl (any_of HT_.out (by kernel_rfl)) (fun _ _ _ h => h) (Or.inl ⟨by rfl, ?_⟩) ?_ ?_
            rotate_left
            ·intro w'
             go_simp
             with_reducible rfl
            rotate_left
            ·simp only [Act.put, List.setIfInBounds_toArray, List.set_cons_zero, List.set_cons_succ, i64_w, i32_w]
             rfl
            refine pure_ (i := 7) (N := some 73) (v := ?_) (a' := ?_) #[true, true, true, true, true, true, true, true, false, false, false, false, false, false, false, false, false, false, false, false, false, false, false, false] rfl rfl (any_of HT_.out (by kernel_rfl)) (fun _ _ _ h => h) (Or.inl ⟨by rfl, ?_⟩) ?_ ?_
            rotate_left
            ·intro w'
             go_simp
             with_reducible rfl
            rotate_left
            ·simp only [Act.put, List.setIfInBounds_toArray, List.set_cons_zero, List.set_cons_succ, i64_w, i32_w]
             rfl
            refine pure_ (i := 8) (N := some 74) (v := ?_) (a' := ?_) #[true, true, true, true, true, true, true, true, true, false, false, false, false, false, false, false, false, false, false, false, false, false, false, false] rfl rfl (any_of HT_.out (by kernel_rfl)) (fun _ _ _ h => h) (Or.inl ⟨by rfl, ?_⟩) ?_ ?_
            rotate_left
            ·intro w'
             go_simp
             with_reducible rfl
            rotate_left
            ·simp only [Act.put, List.setIfInBounds_toArray, List.set_cons_zero, List.set_cons_succ, i64_w, i32_w]
             rfl
            refine pure_ (i := 10) (N := some 76) (v := ?_) (a' := ?_) #[true, true, true, true, true, true, true, true, true, false, true, false, false, false, false, false, false, false, false, false, false, false, false, false] rfl rfl (any_of HT_.out (by kernel_rfl)) (fun _ _ _ h => h) (Or.inl ⟨by rfl, ?_⟩) ?_ ?_
            rotate_left
            ·intro w'
             go_simp
             with_reducible rfl
            rotate_left
            ·simp only [Act.put, List.setIfInBounds_toArray, List.set_cons_zero, List.set_cons_succ, i64_w, i32_w]
             rfl
            refine take_ (i := 9) (N := some 75) (v := ?_) (a' := ?_) #[true, true, true, true, true, true, true, true, true, true, true, false, false, false, false, false, false, false, false, false, false, false, false, false] rfl rfl (take_ofW HT_.out HW_.out (by kernel_rfl)) (fun _ _ _ h => h) (Or.inl ⟨by rfl, ?_⟩) hHeld ?_ ?_
            rotate_left
            ·rintro w' ⟨s0, s1, s2, s3, s4, s5, s6, s7, s8, s9⟩
             go_simp
             with_reducible rfl
            rotate_left
            ·simp only [Act.put, List.setIfInBounds_toArray, List.set_cons_zero, List.set_cons_succ, i64_w, i32_w]
             rfl
            refine take_ (i := 11) (N := some 77) (v := ?_) (a' := ?_) #[true, true, true, true, true, true, true, true, true, true, true, true, false, false, false, false, false, false, false, false, false, false, false, false] rfl rfl (take_ofW HT_.out HW_.out (by kernel_rfl)) (fun _ _ _ h => h) (Or.inl ⟨by rfl, ?_⟩) hHeld ?_ ?_
            rotate_left
            ·rintro w' ⟨s0, s1, s2, s3, s4, s5, s6, s7, s8, s9⟩
             go_simp
             with_reducible rfl
            rotate_left
            ·simp only [Act.put, List.setIfInBounds_toArray, List.set_cons_zero, List.set_cons_succ, i64_w, i32_w]
             rfl
            refine one_ (i := 12) (N := some 78) #[true, true, true, true, true, true, true, true, true, true, true, true, true, false, false, false, false, false, false, false, false, false, false, false] rfl rfl (one_of HT_.out (by kernel_rfl)) (by decide) (fun K hK => ?_)
            refine goes_ Tryd.func49 (by kernel_rfl) rfl #[.slice Ao29 t403.length co29, .slice Ao20 t390.length co20] (by rfl) rfl rfl (by (try simp only [List.map_toArray, List.map_cons, List.map_nil]); first | done | rfl | (simp only [List.length_drop, List.length_take]; rfl)) ?_
            with_reducible refine (laws_sameIvs.calls k2 _ _ t403 _ _ t390 true _ ?side1 ?side2 ?side3 ?side4 A71.out).mono ?_
            (case side1 => repeat (first | exact (Kd.R_reads' HO_407002.out).2.2 | (with_reducible refine Kd.C_alloc ?_ _) | (with_reducible refine Kd.C_drewN ?_ _) | (with_reducible refine Kd.C_drew ?_)))
            (case side2 => exact (Kd.R_reads' HO_407002.out).2.1)
            (case side3 => repeat (first | exact (Kd.R_reads' HO_398002.out).2.2 | (with_reducible refine Kd.C_alloc ?_ _) | (with_reducible refine Kd.C_drewN ?_ _) | (with_reducible refine Kd.C_drew ?_)))
            (case side4 => exact (Kd.R_reads' HO_398002.out).2.1)
            rintro e w' ⟨rfl, ⟨nd, rfl⟩⟩
            refine ⟨_, rfl, ?_⟩
            refine hK.out _ _ ⟨(blk_cell BK406.out 0).trans rfl, (blk_cell BK406.out 1).trans rfl, (blk_cell BK406.out 2).trans rfl, (blk_cell BK398.out 0).trans rfl, (blk_cell BK398.out 1).trans rfl, (blk_cell BK397.out 0).trans rfl, (blk_cell BK397.out 1).trans rfl, (blk_cell BK397.out 2).trans rfl, hHeld.2.2.2.2.2.2.2.2.1, hHeld.2.2.2.2.2.2.2.2.2⟩ (fun hHeld => ?_)
            clear hK K
            refine norm_ (a' := ?_) ?_ ?_
            rotate_left
            ·show Act.put _ (some 78) _ = _
             simp only [Act.put, List.setIfInBounds_toArray, List.set_cons_zero, List.set_cons_succ, i64_w, i32_w]
             rfl
            refine pure_ (i := 13) (N := some 79) (v := ?_) (a' := ?_) #[true, true, true, true, true, true, true, true, true, true, true, true, true, true, false, false, false, false, false, false, false, false, false, false] rfl rfl (any_of HT_.out (by kernel_rfl)) (fun _ _ _ h => h) (Or.inl ⟨by rfl, ?_⟩) ?_ ?_
            rotate_left
            ·intro w'
             go_simp
             with_reducible rfl
            rotate_left
            ·simp only [Act.put, List.setIfInBounds_toArray, List.set_cons_zero, List.set_cons_succ, i64_w, i32_w]
             rfl
            refine pure_ (i := 14) (N := some 80) (v := ?_) (a' := ?_) #[true, true, true, true, true, true, true, true, true, true, true, true, true, true, true, false, false, false, false, false, false, false, false, false] rfl rfl (any_of HT_.out (by kernel_rfl)) (fun _ _ _ h => h) (Or.inl ⟨by rfl, ?_⟩) ?_ ?_
            rotate_left
            ·intro w'
             go_simp
             with_reducible rfl
            rotate_left
            ·simp only [Act.put, List.setIfInBounds_toArray, List.set_cons_zero, List.set_cons_succ, i64_w, i32_w]
             rfl
            refine pure_ (i := 15) (N := some 81) (v := ?_) (a' := ?_) #[true, true, true, true, true, true, true, true, true, true, true, true, true, true, true, true, false, false, false, false, false, false, false, false] rfl rfl (any_of HT_.out (by kernel_rfl)) (fun _ _ _ h => h) (Or.inl ⟨by rfl, ?_⟩) ?_ ?_
            rotate_left
            ·intro w'
             go_simp
             with_reducible rfl
            rotate_left
            ·simp only [Act.put, List.setIfInBounds_toArray, List.set_cons_zero, List.set_cons_succ, i64_w, i32_w]
             rfl
            refine pure_ (i := 18) (N := some 84) (v := ?_) (a' := ?_) #[true, true, true, true, true, true, true, true, true, true, true, true, true, true, true, true, false, false, true, false, false, false, false, false] rfl rfl (any_of HT_.out (by kernel_rfl)) (fun _ _ _ h => h) (Or.inl ⟨by rfl, ?_⟩) ?_ ?_
            rotate_left
            ·intro w'
             go_simp
             with_reducible rfl
            rotate_left
            ·simp only [Act.put, List.setIfInBounds_toArray, List.set_cons_zero, List.set_cons_succ, i64_w, i32_w]
             rfl
            refine take_ (i := 16) (N := some 82) (v := ?_) (a' := ?_) #[true, true, true, true, true, true, true, true, true, true, true, true, true, true, true, true, true, false, true, false, false, false, false, false] rfl rfl (take_ofW HT_.out HW_.out (by kernel_rfl)) (fun _ _ _ h => h) (Or.inl ⟨by rfl, ?_⟩) hHeld ?_ ?_
            rotate_left
            ·rintro w' ⟨s0, s1, s2, s3, s4, s5, s6, s7, s8, s9⟩
             go_simp
             with_reducible rfl
            rotate_left
            ·simp only [Act.put, List.setIfInBounds_toArray, List.set_cons_zero, List.set_cons_succ, i64_w, i32_w]
             rfl
            refine pure_ (i := 17) (N := some 83) (v := ?_) (a' := ?_) #[true, true, true, true, true, true, true, true, true, true, true, true, true, true, true, true, true, true, true, false, false, false, false, false] rfl rfl (any_of HT_.out (by kernel_rfl)) (fun _ _ _ h => h) (Or.inl ⟨by rfl, ?_⟩) ?_ ?_
            rotate_left
            ·intro w'
             go_simp
             with_reducible rfl
            rotate_left
            ·simp only [Act.put, List.setIfInBounds_toArray, List.set_cons_zero, List.set_cons_succ, i64_w, i32_w]
             rfl
            refine take_ (i := 19) (N := some 85) (v := ?_) (a' := ?_) #[true, true, true, true, true, true, true, true, true, true, true, true, true, true, true, true, true, true, true, true, false, false, false, false] rfl rfl (take_ofW HT_.out HW_.out (by kernel_rfl)) (fun _ _ _ h => h) (Or.inl ⟨by rfl, ?_⟩) hHeld ?_ ?_
            rotate_left
            ·rintro w' ⟨s0, s1, s2, s3, s4, s5, s6, s7, s8, s9⟩
             go_simp
             with_reducible rfl
            rotate_left
            ·simp only [Act.put, List.setIfInBounds_toArray, List.set_cons_zero, List.set_cons_succ, i64_w, i32_w]
             rfl
            refine pure_ (i := 20) (N := some 86) (v := ?_) (a' := ?_) #[true, true, true, true, true, true, true, true, true, true, true, true, true, true, true, true, true, true, true, true, true, false, false, false] rfl rfl (any_of HT_.out (by kernel_rfl)) (fun _ _ _ h => h) (Or.inl ⟨by rfl, ?_⟩) ?_ ?_
            rotate_left
            ·intro w'
             go_simp
             with_reducible rfl
            rotate_left
            ·simp only [Act.put, List.setIfInBounds_toArray, List.set_cons_zero, List.set_cons_succ, i64_w, i32_w]
             rfl
            refine pure_ (i := 21) (N := some 87) (v := ?_) (a' := ?_) #[true, true, true, true, true, true, true, true, true, true, true, true, true, true, true, true, true, true, true, true, true, true, false, false] rfl rfl (any_of HT_.out (by kernel_rfl)) (fun _ _ _ h => h) (Or.inl ⟨by rfl, ?_⟩) ?_ ?_
            rotate_left
            ·intro w'
             go_simp
             with_reducible rfl
            rotate_left
            ·simp only [Act.put, List.setIfInBounds_toArray, List.set_cons_zero, List.set_cons_succ, i64_w, i32_w]
             rfl
            refine pure_ (i := 22) (N := some 88) (v := ?_) (a' := ?_) #[true, true, true, true, true, true, true, true, true, true, true, true, true, true, true, true, true, true, true, true, true, true, true, false] rfl rfl (any_of HT_.out (by kernel_rfl)) (fun _ _ _ h => h) (Or.inl ⟨by rfl, ?_⟩) ?_ ?_
            rotate_left
            ·intro w'
             go_simp
             with_reducible rfl
            rotate_left
            ·simp only [Act.put, List.setIfInBounds_toArray, List.set_cons_zero, List.set_cons_succ, i64_w, i32_w]
             rfl
            refine pure_ (i := 23) (N := some 2) (v := ?_) (a' := ?_) #[true, true, true, true, true, true, true, true, true, true, true, true, true, true, true, true, true, true, true, true, true, true, true, true] rfl rfl (any_of HT_.out (by kernel_rfl)) (fun _ _ _ h => h) (Or.inl ⟨by rfl, ?_⟩) ?_ ?_
            rotate_left
            ·intro w'
             go_simp
             with_reducible rfl
            rotate_left
            ·simp only [Act.put, List.setIfInBounds_toArray, List.set_cons_zero, List.set_cons_succ, i64_w, i32_w]
             rfl
            refine done_ (done_of HT_.out (by kernel_rfl)) ?_
            try go_wp2
            go_ret
            exact ⟨by first | rfl | exact congrArg (fun b_ => Ending.returned (Value.bool b_)) HE_.out | (refine absurd HE_.out ?_; simp [*]; done) | (have h_ := HE_.out; clear HE_; simp_all; done) | (have h_ := HE_.out; clear HE_; simp_all; omega) | (simp [errW_none, errW_some] <;> rfl) | (simp [*, errW_none, errW_some] <;> rfl), bw HB⟩
           ·replace c72 := Bool.eq_false_iff.mpr c72
            subst c72
            have H1 : (some false) = some true := by rw [if_neg (show ¬ (false = true) by decide)] at H; first | done | exact H
            clear H
            have H := H1
            clear H1
            exact absurd (Option.some.inj H) (by decide)
          ·rw [if_neg c70] at H
           have c70b0 : (((rd_T78 t400 t393).f0) == t394 && (((rd_T78 t400 t393).f1) == t395)) = false := by simpa using c70
           (try (have c70b1 : decide (((rd_T78 t400 t393).f0) = t394 && (((rd_T78 t400 t393).f1) == t395)) = false := by simpa using c70))
           (try (have c70b2 : (((rd_T78 t400 t393).f0) == t394 && (((rd_T78 t400 t393).f1) == t395)) = false := by simpa using c70))
           (try (have c70b3 : ¬ (((rd_T78 t400 t393).f0) = t394 && (((rd_T78 t400 t393).f1) == t395)) := by simpa using c70))
           clear c70
           exact absurd (Option.some.inj H) (by decide)
         ·rw [if_neg c69] at H
          exact absurd H (by simp)
        ·rw [if_neg c68] at H
         exact absurd H (by simp)

end Go.Proofs.YtcomagipdbdglaaDoor.Q
