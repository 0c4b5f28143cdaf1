-- Contracts of the program's functions, each with the plain function that it computes.
import Derived.Test.YtojlcngdcodgbaaDoorQx0
import Derived.Test.YtojlcngdcodgbaaDoorQx2
import Derived.Test.YtojlcngdcodgbaaDoorQx4
import Derived.Test.YtojlcngdcodgbaaDoorQx5
import Derived.Test.YtojlcngdcodgbaaDoorQx8
import Derived.Test.YtojlcngdcodgbaaDoorQx11
import Derived.Test.YtojlcngdcodgbaaDoorQx14
import Derived.Test.YtojlcngdcodgbaaDoorQx15
import Derived.Test.YtojlcngdcodgbaaDoorQx19
import Derived.Test.YtojlcngdcodgbaaDoorQx21
import Derived.Test.YtojlcngdcodgbaaDoorQx22
namespace Go.Proofs.YtojlcngdcodgbaaDoor.Q
open Go.RowKit Go.Proofs.YtojlcngdcodgbaaDoorW.PrintWords Go.Proofs.YtojlcngdcodgbaaDoorW.PrintLast Go.Proofs.YtojlcngdcodgbaaDoorW.PrintMore
attribute [local go_sem] max2_int min2_int max_two min_two max_three min_three max_four min_four   -- for this text's walks alone
set_option linter.unusedVariables false
set_option linter.unusedSimpArgs false

/-! ### laws_FnTokenTexts: function 5 -/
def laws_FnTokenTexts.j0 : Nat → List (S40) → ByteArray → Bool → Option (Bool)
 | 0, _, _, _ => none
 | k + 1, x3, x4, x53 => if x53 = true then (some false) else ((impl_ReadToken.f x4).bind fun bt270 => ((spec_TokenOk.f k x3).bind fun t274 => (if (bt270.2 == t274) = true then ((impl_TokenOk.f x3).bind fun t275 => (if (bt270.2 == t275) = true then (if bt270.2 = true then ((laws_sameToken.f k bt270.1 x3).bind fun t276 => (some t276)) else (some true)) else (some false))) else (some false))))
def laws_FnTokenTexts.f (k : Nat) (l0 : List Int) : Option (Bool) := (laws_big.f l0).bind fun t253 => (if t253 = true then (some true) else ((spec_DrawTokenText.f k l0).bind fun t254 => ((impl_TokenText.f t254).bind fun t257 => ((spec_DrawReadToken.f k l0).bind fun t258 => ((impl_ReadToken.f t258).bind fun bt259 => ((spec_ReadToken.f k t258).bind fun bt263 => ((spec_TokenText.f k t254).bind fun t267 => (if t257.toList = t267.toList then (if (bt259.2 != bt263.2) = true then (laws_FnTokenTexts.j0 k t254 t257 true) else ((laws_sameToken.f k bt259.1 bt263.1).bind fun t268 => (if t268 = true then (if bt259.2 = true then ((impl_TokenText.f bt259.1).bind fun t269 => (laws_FnTokenTexts.j0 k t254 t257 (t269.toList != t258.toList))) else (laws_FnTokenTexts.j0 k t254 t257 false)) else (laws_FnTokenTexts.j0 k t254 t257 true)))) else (laws_FnTokenTexts.j0 k t254 t257 true)))))))))
theorem laws_FnTokenTexts.mono_l : ∀ k, (∀ y0 y1 y2, LeO (laws_FnTokenTexts.j0 k y0 y1 y2) (laws_FnTokenTexts.j0 (k + 1) y0 y1 y2))
 | 0 => fun _ _ _ r h => by simp [laws_FnTokenTexts.j0] at h
 | k + 1 => by
  have ih0 := laws_FnTokenTexts.mono_l k
  ·intro y0 y1 y2
   unfold laws_FnTokenTexts.j0
   repeat' first
   | (with_reducible exact ih0 _ _ _)
   | (with_reducible exact laws_sameToken.mono _ _ _)
   | (with_reducible exact spec_DrawReadToken.mono _ _)
   | (with_reducible exact spec_DrawTokenText.mono _ _)
   | (with_reducible exact spec_ReadToken.mono _ _)
   | (with_reducible exact spec_TokenOk.mono _ _)
   | (with_reducible exact spec_TokenText.mono _ _)
   | (with_reducible exact LeO.refl _)
   | (with_reducible exact LeO.none _)
   | (with_reducible refine LeO.ite ?_ ?_)
   | (with_reducible refine LeO.bind ?_ (fun _ => ?_))
   | exact ih0 _ _ _
   | exact laws_sameToken.mono _ _ _
   | exact spec_DrawReadToken.mono _ _
   | exact spec_DrawTokenText.mono _ _
   | exact spec_ReadToken.mono _ _
   | exact spec_TokenOk.mono _ _
   | exact spec_TokenText.mono _ _
   | exact LeO.none _
   | refine LeO.ite ?_ ?_
   | refine LeO.bind ?_ (fun _ => ?_)
theorem laws_FnTokenTexts.mono : ∀ a0 k, LeO (laws_FnTokenTexts.f k a0) (laws_FnTokenTexts.f (k + 1) a0) := by
 intro a0 k
 have ih0 := laws_FnTokenTexts.mono_l k
 unfold laws_FnTokenTexts.f
 repeat' first
   | (with_reducible exact ih0 _ _ _)
   | (with_reducible exact laws_sameToken.mono _ _ _)
   | (with_reducible exact spec_DrawReadToken.mono _ _)
   | (with_reducible exact spec_DrawTokenText.mono _ _)
   | (with_reducible exact spec_ReadToken.mono _ _)
   | (with_reducible exact spec_TokenOk.mono _ _)
   | (with_reducible exact spec_TokenText.mono _ _)
   | (with_reducible exact LeO.refl _)
   | (with_reducible exact LeO.none _)
   | (with_reducible refine LeO.ite ?_ ?_)
   | (with_reducible refine LeO.bind ?_ (fun _ => ?_))
   | exact ih0 _ _ _
   | exact laws_sameToken.mono _ _ _
   | exact spec_DrawReadToken.mono _ _
   | exact spec_DrawTokenText.mono _ _
   | exact spec_ReadToken.mono _ _
   | exact spec_TokenOk.mono _ _
   | exact spec_TokenText.mono _ _
   | exact LeO.none _
   | refine LeO.ite ?_ ?_
   | refine LeO.bind ?_ (fun _ => ?_)
set_option maxHeartbeats 8000000 in
set_option maxRecDepth 100000 in
theorem laws_FnTokenTexts.calls (k : Nat) (A0 : Option Addr) (c0 : Nat) (l0 : List Int) (w : World) (hr0 : Kd.C (Kd.int .u8) w A0 l0.length l0) (hc0 : l0.length ≤ c0) (h : laws_FnTokenTexts.f k l0 = some true) (hTAB : TabW w := by first | exact HTAB.out | exact TabW.drewN HTAB.out _ | exact TabW.below HTAB.out (by repeat (first | (with_reducible first | exact HB.out | apply below_alloc | apply pw_below_drewN | apply below_drew1 | refine below_set ?_ (Aside0.out (by assumption))) | exact HB.out))) :
  Calls Tryd.prog 5 #[.slice A0 l0.length c0] w fun e w' => e = .returned (.bool true) ∧ Below w.heap.size w w' := by
 have HTAB := Aside0.mk hTAB
 clear hTAB
 have HR0 := Aside0.mk hr0
 have HC0 := Aside0.mk hc0
 clear hr0 hc0
 have HB := Aside0.mk (Below.refl w.heap.size w)
 have H : ((laws_big.f l0).bind fun t253 => (if t253 = true then (some true) else ((spec_DrawTokenText.f k l0).bind fun t254 => ((impl_TokenText.f t254).bind fun t257 => ((spec_DrawReadToken.f k l0).bind fun t258 => ((impl_ReadToken.f t258).bind fun bt259 => ((spec_ReadToken.f k t258).bind fun bt263 => ((spec_TokenText.f k t254).bind fun t267 => (if t257.toList = t267.toList then (if (bt259.2 != bt263.2) = true then (laws_FnTokenTexts.j0 k t254 t257 true) else ((laws_sameToken.f k bt259.1 bt263.1).bind fun t268 => (if t268 = true then (if bt259.2 = true then ((impl_TokenText.f bt259.1).bind fun t269 => (laws_FnTokenTexts.j0 k t254 t257 (t269.toList != t258.toList))) else (laws_FnTokenTexts.j0 k t254 t257 false)) else (laws_FnTokenTexts.j0 k t254 t257 true)))) else (laws_FnTokenTexts.j0 k t254 t257 true)))))))))) = some true := h
 clear h
 replace H := Option.bind_eq_some_iff.mp H
 obtain ⟨t253, A20, H⟩ := H
 replace H : (if t253 = true then (some true) else ((spec_DrawTokenText.f k l0).bind fun t254 => ((impl_TokenText.f t254).bind fun t257 => ((spec_DrawReadToken.f k l0).bind fun t258 => ((impl_ReadToken.f t258).bind fun bt259 => ((spec_ReadToken.f k t258).bind fun bt263 => ((spec_TokenText.f k t254).bind fun t267 => (if t257.toList = t267.toList then (if (bt259.2 != bt263.2) = true then (laws_FnTokenTexts.j0 k t254 t257 true) else ((laws_sameToken.f k bt259.1 bt263.1).bind fun t268 => (if t268 = true then (if bt259.2 = true then ((impl_TokenText.f bt259.1).bind fun t269 => (laws_FnTokenTexts.j0 k t254 t257 (t269.toList != t258.toList))) else (laws_FnTokenTexts.j0 k t254 t257 false)) else (laws_FnTokenTexts.j0 k t254 t257 true)))) else (laws_FnTokenTexts.j0 k t254 t257 true))))))))) = some true := H
 have A2 := Aside0.mk A20
 clear A20
 by_cases c3 : t253 = true
 ·subst c3
  have H1 : (some true) = some true := by rw [if_pos rfl] at H; first | done | exact H
  clear H
  have H := H1
  clear H1
  have HE_ := Aside0.mk (Option.some.inj H)
  clear H
  go_enter Tryd.func5, Tryd.ntmps5
  go_wp2_with (((with_reducible refine gate_callee (f := 15) rfl ?_); refine goesL_ (some 13) rfl rfl Tryd.func15 (by kernel_rfl) rfl #[.slice A0 l0.length c0] rfl (by (try simp only [List.map_toArray, List.map_cons, List.map_nil]); first | done | rfl | (simp only [List.length_drop, List.length_take]; rfl)) ?_; (with_reducible refine (laws_big.calls _ _ l0 true _ ?side1 ?side2 A2.out).mono ?_); (case side1 => repeat (first | exact HR0.out | (with_reducible refine Kd.C_alloc ?_ _) | (with_reducible refine Kd.C_drewN ?_ _) | (with_reducible refine Kd.C_drew ?_))); (case side2 => exact HC0.out); rintro e w' ⟨rfl, ⟨nd, rfl⟩⟩; refine ⟨_, rfl, ?_⟩))
  go_ret
  exact ⟨by first | rfl | exact congrArg (fun b_ => Ending.returned (Value.bool b_)) HE_.out | (refine absurd HE_.out ?_; simp [*]; done) | (have h_ := HE_.out; clear HE_; simp_all; done) | (have h_ := HE_.out; clear HE_; simp_all; omega) | (simp [errW_none, errW_some] <;> rfl) | (simp [*, errW_none, errW_some] <;> rfl), bw HB⟩
 ·replace c3 := Bool.eq_false_iff.mpr c3
  subst c3
  have H1 : ((spec_DrawTokenText.f k l0).bind fun t254 => ((impl_TokenText.f t254).bind fun t257 => ((spec_DrawReadToken.f k l0).bind fun t258 => ((impl_ReadToken.f t258).bind fun bt259 => ((spec_ReadToken.f k t258).bind fun bt263 => ((spec_TokenText.f k t254).bind fun t267 => (if t257.toList = t267.toList then (if (bt259.2 != bt263.2) = true then (laws_FnTokenTexts.j0 k t254 t257 true) else ((laws_sameToken.f k bt259.1 bt263.1).bind fun t268 => (if t268 = true then (if bt259.2 = true then ((impl_TokenText.f bt259.1).bind fun t269 => (laws_FnTokenTexts.j0 k t254 t257 (t269.toList != t258.toList))) else (laws_FnTokenTexts.j0 k t254 t257 false)) else (laws_FnTokenTexts.j0 k t254 t257 true)))) else (laws_FnTokenTexts.j0 k t254 t257 true)))))))) = some true := by rw [if_neg (show ¬ (false = true) by decide)] at H; first | done | exact H
  clear H
  have H := H1
  clear H1
  replace H := Option.bind_eq_some_iff.mp H
  obtain ⟨t254, A40, H⟩ := H
  replace H : ((impl_TokenText.f t254).bind fun t257 => ((spec_DrawReadToken.f k l0).bind fun t258 => ((impl_ReadToken.f t258).bind fun bt259 => ((spec_ReadToken.f k t258).bind fun bt263 => ((spec_TokenText.f k t254).bind fun t267 => (if t257.toList = t267.toList then (if (bt259.2 != bt263.2) = true then (laws_FnTokenTexts.j0 k t254 t257 true) else ((laws_sameToken.f k bt259.1 bt263.1).bind fun t268 => (if t268 = true then (if bt259.2 = true then ((impl_TokenText.f bt259.1).bind fun t269 => (laws_FnTokenTexts.j0 k t254 t257 (t269.toList != t258.toList))) else (laws_FnTokenTexts.j0 k t254 t257 false)) else (laws_FnTokenTexts.j0 k t254 t257 true)))) else (laws_FnTokenTexts.j0 k t254 t257 true))))))) = some true := H
  have A4 := Aside0.mk A40
  clear A40
  replace H := Option.bind_eq_some_iff.mp H
  obtain ⟨t257, A50, H⟩ := H
  replace H : ((spec_DrawReadToken.f k l0).bind fun t258 => ((impl_ReadToken.f t258).bind fun bt259 => ((spec_ReadToken.f k t258).bind fun bt263 => ((spec_TokenText.f k t254).bind fun t267 => (if t257.toList = t267.toList then (if (bt259.2 != bt263.2) = true then (laws_FnTokenTexts.j0 k t254 t257 true) else ((laws_sameToken.f k bt259.1 bt263.1).bind fun t268 => (if t268 = true then (if bt259.2 = true then ((impl_TokenText.f bt259.1).bind fun t269 => (laws_FnTokenTexts.j0 k t254 t257 (t269.toList != t258.toList))) else (laws_FnTokenTexts.j0 k t254 t257 false)) else (laws_FnTokenTexts.j0 k t254 t257 true)))) else (laws_FnTokenTexts.j0 k t254 t257 true)))))) = some true := H
  have A5 := Aside0.mk A50
  clear A50
  replace H := Option.bind_eq_some_iff.mp H
  obtain ⟨t258, A60, H⟩ := H
  replace H : ((impl_ReadToken.f t258).bind fun bt259 => ((spec_ReadToken.f k t258).bind fun bt263 => ((spec_TokenText.f k t254).bind fun t267 => (if t257.toList = t267.toList then (if (bt259.2 != bt263.2) = true then (laws_FnTokenTexts.j0 k t254 t257 true) else ((laws_sameToken.f k bt259.1 bt263.1).bind fun t268 => (if t268 = true then (if bt259.2 = true then ((impl_TokenText.f bt259.1).bind fun t269 => (laws_FnTokenTexts.j0 k t254 t257 (t269.toList != t258.toList))) else (laws_FnTokenTexts.j0 k t254 t257 false)) else (laws_FnTokenTexts.j0 k t254 t257 true)))) else (laws_FnTokenTexts.j0 k t254 t257 true))))) = some true := H
  have A6 := Aside0.mk A60
  clear A60
  replace H := Option.bind_eq_some_iff.mp H
  obtain ⟨⟨t259, t260⟩, A70, H⟩ := H
  replace H : ((spec_ReadToken.f k t258).bind fun bt263 => ((spec_TokenText.f k t254).bind fun t267 => (if t257.toList = t267.toList then (if (t260 != bt263.2) = true then (laws_FnTokenTexts.j0 k t254 t257 true) else ((laws_sameToken.f k t259 bt263.1).bind fun t268 => (if t268 = true then (if t260 = true then ((impl_TokenText.f t259).bind fun t269 => (laws_FnTokenTexts.j0 k t254 t257 (t269.toList != t258.toList))) else (laws_FnTokenTexts.j0 k t254 t257 false)) else (laws_FnTokenTexts.j0 k t254 t257 true)))) else (laws_FnTokenTexts.j0 k t254 t257 true)))) = some true := H
  have A7 := Aside0.mk A70
  clear A70
  replace H := Option.bind_eq_some_iff.mp H
  obtain ⟨⟨t263, t264⟩, A80, H⟩ := H
  replace H : ((spec_TokenText.f k t254).bind fun t267 => (if t257.toList = t267.toList then (if (t260 != t264) = true then (laws_FnTokenTexts.j0 k t254 t257 true) else ((laws_sameToken.f k t259 t263).bind fun t268 => (if t268 = true then (if t260 = true then ((impl_TokenText.f t259).bind fun t269 => (laws_FnTokenTexts.j0 k t254 t257 (t269.toList != t258.toList))) else (laws_FnTokenTexts.j0 k t254 t257 false)) else (laws_FnTokenTexts.j0 k t254 t257 true)))) else (laws_FnTokenTexts.j0 k t254 t257 true))) = some true := H
  have A8 := Aside0.mk A80
  clear A80
  have HC9 := Aside0.mk H
  clear H
  go_enter Tryd.func5, Tryd.ntmps5
  go_upto_region 8 with (first | ((with_reducible refine gate_callee (f := 15) rfl ?_); refine goesL_ (some 13) rfl rfl Tryd.func15 (by kernel_rfl) rfl #[.slice A0 l0.length c0] rfl (by (try simp only [List.map_toArray, List.map_cons, List.map_nil]); first | done | rfl | (simp only [List.length_drop, List.length_take]; rfl)) ?_; (with_reducible refine (laws_big.calls _ _ l0 false _ ?side1 ?side2 A2.out).mono ?_); (case side1 => repeat (first | exact HR0.out | (with_reducible refine Kd.C_alloc ?_ _) | (with_reducible refine Kd.C_drewN ?_ _) | (with_reducible refine Kd.C_drew ?_))); (case side2 => exact HC0.out); rintro e w' ⟨rfl, ⟨nd, rfl⟩⟩; refine ⟨_, rfl, ?_⟩) | ((with_reducible refine gate_callee (f := 16) rfl ?_); refine goesL_ (some 15) rfl rfl Tryd.func16 (by kernel_rfl) rfl #[.slice A0 l0.length c0] rfl (by (try simp only [List.map_toArray, List.map_cons, List.map_nil]); first | done | rfl | (simp only [List.length_drop, List.length_take]; rfl)) ?_; (with_reducible refine (spec_DrawTokenText.calls k _ _ l0 t254 _ ?side1 ?side2 A4.out).mono ?_); (case side1 => repeat (first | exact HR0.out | (with_reducible refine Kd.C_alloc ?_ _) | (with_reducible refine Kd.C_drewN ?_ _) | (with_reducible refine Kd.C_drew ?_))); (case side2 => exact HC0.out); rintro e w10 ⟨v255, rfl, ho0, hb⟩; refine ⟨_, rfl, ?_⟩; have HO256 := Aside0.mk (Kd.R_lower ho0 (below_size (bw HB))); replace HB := bs HB hb; (try clear hb); (try clear hb2); (try clear hk); (try clear hi); (try clear ho0); obtain ⟨Ao11, co11, eo11⟩ := Kd.R_slice HO256.out; subst eo11) | ((with_reducible refine gate_callee (f := 9) rfl ?_); refine goesL_ (some 17) rfl rfl Tryd.func9 (by kernel_rfl) rfl #[.slice Ao11 t254.length co11] rfl (by (try simp only [List.map_toArray, List.map_cons, List.map_nil]); first | done | rfl | (simp only [List.length_drop, List.length_take]; rfl)) ?_; (with_reducible refine (impl_TokenText.calls _ _ t254 t257 _ ?side1 ?side2 A5.out).mono ?_); (case side1 => repeat (first | exact (Kd.R_reads' HO256.out).2.2 | (with_reducible refine Kd.C_alloc ?_ _) | (with_reducible refine Kd.C_drewN ?_ _) | (with_reducible refine Kd.C_drew ?_))); (case side2 => exact (Kd.R_reads' HO256.out).2.1); rintro e w12 ⟨rfl, hb⟩; refine ⟨_, rfl, ?_⟩; replace HO256 := Aside0.mk (Kd.R_below (by (with_reducible repeat (first | apply Kd.R_alloc | apply Kd.R_drewN | apply Kd.R_drew)); exact HO256.out) hb); replace HB := bs HB hb; (try clear hb); (try clear hb2); (try clear hk); (try clear hi)) | ((with_reducible refine gate_callee (f := 17) rfl ?_); refine goesL_ (some 19) rfl rfl Tryd.func17 (by kernel_rfl) rfl #[.slice A0 l0.length c0] rfl (by (try simp only [List.map_toArray, List.map_cons, List.map_nil]); first | done | rfl | (simp only [List.length_drop, List.length_take]; rfl)) ?_; (with_reducible refine (spec_DrawReadToken.calls k _ _ l0 t258 _ ?side1 ?side2 A6.out).mono ?_); (case side1 => repeat (first | exact (Kd.C_below HR0.out HB.out) | (with_reducible refine Kd.C_alloc ?_ _) | (with_reducible refine Kd.C_drewN ?_ _) | (with_reducible refine Kd.C_drew ?_))); (case side2 => exact HC0.out); rintro e w13 ⟨rfl, hb⟩; refine ⟨_, rfl, ?_⟩; replace HO256 := Aside0.mk (Kd.R_below (by (with_reducible repeat (first | apply Kd.R_alloc | apply Kd.R_drewN | apply Kd.R_drew)); exact HO256.out) hb); replace HB := bs HB hb; (try clear hb); (try clear hb2); (try clear hk); (try clear hi)) | ((with_reducible refine gate_callee (f := 12) rfl ?_); refine goesL_ (some 22) rfl rfl Tryd.func12 (by kernel_rfl) rfl #[.string t258] rfl (by (try simp only [List.map_toArray, List.map_cons, List.map_nil]); first | done | rfl | (simp only [List.length_drop, List.length_take]; rfl)) ?_; (with_reducible refine (impl_ReadToken.calls t258 t259 t260 _ A7.out).mono ?_); rintro e w14 ⟨v261, rfl, ho0, hb⟩; refine ⟨_, rfl, ?_⟩; have HO262 := Aside0.mk (Kd.R_lower (Kd.R_new' ho0 (Kd.R_lt (by (with_reducible repeat (first | apply Kd.R_alloc | apply Kd.R_drewN | apply Kd.R_drew)); exact HO256.out))) (below_size (bw HB))); replace HO256 := Aside0.mk (Kd.R_elder' (by (with_reducible repeat (first | apply Kd.R_alloc | apply Kd.R_drewN | apply Kd.R_drew)); exact HO256.out) (Kd.R_base ho0) hb); replace HB := bs HB hb; (try clear hb); (try clear hb2); (try clear hk); (try clear hi); (try clear ho0)) | ((with_reducible refine gate_callee (f := 11) rfl ?_); refine goesL_ (some 27) rfl rfl Tryd.func11 (by kernel_rfl) rfl #[.string t258] rfl (by (try simp only [List.map_toArray, List.map_cons, List.map_nil]); first | done | rfl | (simp only [List.length_drop, List.length_take]; rfl)) ?_; (with_reducible refine (spec_ReadToken.calls k t258 t263 t264 _ A8.out).mono ?_); rintro e w15 ⟨v265, rfl, ho0, hb⟩; refine ⟨_, rfl, ?_⟩; have HO266 := Aside0.mk (Kd.R_lower (Kd.R_new' (Kd.R_new' ho0 (Kd.R_lt (by (with_reducible repeat (first | apply Kd.R_alloc | apply Kd.R_drewN | apply Kd.R_drew)); exact HO256.out))) (Kd.R_lt (by (with_reducible repeat (first | apply Kd.R_alloc | apply Kd.R_drewN | apply Kd.R_drew)); exact HO262.out))) (below_size (bw HB))); replace HO256 := Aside0.mk (Kd.R_elder' (by (with_reducible repeat (first | apply Kd.R_alloc | apply Kd.R_drewN | apply Kd.R_drew)); exact HO256.out) (Kd.R_base ho0) hb); replace HO262 := Aside0.mk (Kd.R_elder' (by (with_reducible repeat (first | apply Kd.R_alloc | apply Kd.R_drewN | apply Kd.R_drew)); exact HO262.out) (Kd.R_base ho0) hb); replace HB := bs HB hb; (try clear hb); (try clear hb2); (try clear hk); (try clear hi); (try clear ho0)))
  (try simp only [Act.put, List.setIfInBounds_toArray, List.set_cons_zero, List.set_cons_succ])
  go_cut [53] (fun v53 wc => ∃ (kq : Nat) (x53_8 : Bool), v53 = .bool x53_8 ∧ Aside0 (laws_FnTokenTexts.j0 kq t254 t257 x53_8 = some true) ∧ Aside0 (kq ≤ k) ∧ Aside0 (Kd.R k40 40 wc w.heap.size (fun _ => True) (.slice Ao11 t254.length co11) t254) ∧ Aside0 (Below w.heap.size w wc))
  case first =>
   have H := HC9.out
   clear HC9
   replace H := Option.bind_eq_some_iff.mp H
   obtain ⟨t267, A160, H⟩ := H
   replace H : (if t257.toList = t267.toList then (if (t260 != t264) = true then (laws_FnTokenTexts.j0 k t254 t257 true) else ((laws_sameToken.f k t259 t263).bind fun t268 => (if t268 = true then (if t260 = true then ((impl_TokenText.f t259).bind fun t269 => (laws_FnTokenTexts.j0 k t254 t257 (t269.toList != t258.toList))) else (laws_FnTokenTexts.j0 k t254 t257 false)) else (laws_FnTokenTexts.j0 k t254 t257 true)))) else (laws_FnTokenTexts.j0 k t254 t257 true)) = some true := H
   have A16 := Aside0.mk A160
   clear A160
   by_cases c17 : t257.toList = t267.toList
   ·rw [if_pos c17] at H
    have c17b0 : (t257.toList == t267.toList) = true := beq_iff_eq.mpr c17
    have c17b1 : (t257.toList != t267.toList) = false := bne_eq_false_iff_eq.mpr c17
    clear c17
    (first | rw [c17b0] | (simp only [i64_w, i32_w]; rw [c17b0]) | skip)
    by_cases c18 : (t260 != t264) = true
    ·rw [if_pos c18] at H
     have c18b0 : (t260 != t264) = true := c18
     (try (have c18b1 : decide (t260 = t264) = false := by simpa using c18))
     (try (have c18b2 : (t260 == t264) = false := by simpa using c18))
     (try (have c18b3 : ¬ (t260 = t264) := by simpa using c18))
     clear c18
     have H' := Aside0.mk H
     clear H
     go_wp2_with (((with_reducible refine gate_callee (f := 7) rfl ?_); refine goesL_ (some 32) rfl rfl Tryd.func7 (by kernel_rfl) rfl #[.slice Ao11 t254.length co11] rfl (by (try simp only [List.map_toArray, List.map_cons, List.map_nil]); first | done | rfl | (simp only [List.length_drop, List.length_take]; rfl)) ?_; (with_reducible refine (spec_TokenText.calls k _ _ t254 t267 _ ?side1 ?side2 A16.out).mono ?_); (case side1 => repeat (first | exact (Kd.R_reads' HO256.out).2.2 | (with_reducible refine Kd.C_alloc ?_ _) | (with_reducible refine Kd.C_drewN ?_ _) | (with_reducible refine Kd.C_drew ?_))); (case side2 => exact (Kd.R_reads' HO256.out).2.1); rintro e w19 ⟨rfl, hb⟩; refine ⟨_, rfl, ?_⟩; replace HO256 := Aside0.mk (Kd.R_below (by (with_reducible repeat (first | apply Kd.R_alloc | apply Kd.R_drewN | apply Kd.R_drew)); exact HO256.out) hb); replace HO262 := Aside0.mk (Kd.R_below (by (with_reducible repeat (first | apply Kd.R_alloc | apply Kd.R_drewN | apply Kd.R_drew)); exact HO262.out) hb); replace HO266 := Aside0.mk (Kd.R_below (by (with_reducible repeat (first | apply Kd.R_alloc | apply Kd.R_drewN | apply Kd.R_drew)); exact HO266.out) hb); replace HB := bs HB hb; (try clear hb); (try clear hb2); (try clear hk); (try clear hi)))
     go_meet
     case rel => exact ⟨_, (true), (by first | rfl | (simp; done) | (simp [*]; done)), H', ⟨by first | omega | exact Nat.le_refl _⟩, ⟨by (with_reducible repeat (first | apply Kd.R_alloc | apply Kd.R_drewN | apply Kd.R_drew)); exact Kd.R_mono HO256.out (fun _ hk => trivial)⟩, ⟨bw HB⟩⟩
    ·rw [if_neg c18] at H
     have c18b0 : (t260 != t264) = false := by simpa using c18
     (try (have c18b1 : decide (t260 = t264) = true := by simpa using c18))
     (try (have c18b2 : (t260 == t264) = true := by simpa using c18))
     clear c18
     replace H := Option.bind_eq_some_iff.mp H
     obtain ⟨t268, A200, H⟩ := H
     replace H : (if t268 = true then (if t260 = true then ((impl_TokenText.f t259).bind fun t269 => (laws_FnTokenTexts.j0 k t254 t257 (t269.toList != t258.toList))) else (laws_FnTokenTexts.j0 k t254 t257 false)) else (laws_FnTokenTexts.j0 k t254 t257 true)) = some true := H
     have A20 := Aside0.mk A200
     clear A200
     by_cases c21 : t268 = true
     ·subst c21
      have H1 : (if t260 = true then ((impl_TokenText.f t259).bind fun t269 => (laws_FnTokenTexts.j0 k t254 t257 (t269.toList != t258.toList))) else (laws_FnTokenTexts.j0 k t254 t257 false)) = some true := by rw [if_pos rfl] at H; first | done | exact H
      clear H
      have H := H1
      clear H1
      by_cases c22 : t260 = true
      ·subst c22
       have H1 : ((impl_TokenText.f t259).bind fun t269 => (laws_FnTokenTexts.j0 k t254 t257 (t269.toList != t258.toList))) = some true := by rw [if_pos rfl] at H; first | done | exact H
       clear H
       have H := H1
       clear H1
       replace H := Option.bind_eq_some_iff.mp H
       obtain ⟨t269, A230, H⟩ := H
       replace H : (laws_FnTokenTexts.j0 k t254 t257 (t269.toList != t258.toList)) = some true := H
       have A23 := Aside0.mk A230
       clear A230
       have H' := Aside0.mk H
       clear H
       go_wp2_with (first | ((with_reducible refine gate_callee (f := 7) rfl ?_); refine goesL_ (some 32) rfl rfl Tryd.func7 (by kernel_rfl) rfl #[.slice Ao11 t254.length co11] rfl (by (try simp only [List.map_toArray, List.map_cons, List.map_nil]); first | done | rfl | (simp only [List.length_drop, List.length_take]; rfl)) ?_; (with_reducible refine (spec_TokenText.calls k _ _ t254 t267 _ ?side1 ?side2 A16.out).mono ?_); (case side1 => repeat (first | exact (Kd.R_reads' HO256.out).2.2 | (with_reducible refine Kd.C_alloc ?_ _) | (with_reducible refine Kd.C_drewN ?_ _) | (with_reducible refine Kd.C_drew ?_))); (case side2 => exact (Kd.R_reads' HO256.out).2.1); rintro e w24 ⟨rfl, hb⟩; refine ⟨_, rfl, ?_⟩; replace HO256 := Aside0.mk (Kd.R_below (by (with_reducible repeat (first | apply Kd.R_alloc | apply Kd.R_drewN | apply Kd.R_drew)); exact HO256.out) hb); replace HO262 := Aside0.mk (Kd.R_below (by (with_reducible repeat (first | apply Kd.R_alloc | apply Kd.R_drewN | apply Kd.R_drew)); exact HO262.out) hb); replace HO266 := Aside0.mk (Kd.R_below (by (with_reducible repeat (first | apply Kd.R_alloc | apply Kd.R_drewN | apply Kd.R_drew)); exact HO266.out) hb); replace HB := bs HB hb; (try clear hb); (try clear hb2); (try clear hk); (try clear hi); obtain ⟨Ao25, co25, eo25⟩ := Kd.R_slice HO262.out; subst eo25; obtain ⟨Ao26, co26, eo26⟩ := Kd.R_slice HO266.out; subst eo26) | (go_at_call 18; (with_reducible refine (laws_sameToken.calls k _ _ t259 _ _ t263 true _ ?side1 ?side2 ?side3 ?side4 A20.out).mono ?_); (case side1 => repeat (first | exact (Kd.R_reads' HO262.out).2.2 | (with_reducible refine Kd.C_alloc ?_ _) | (with_reducible refine Kd.C_drewN ?_ _) | (with_reducible refine Kd.C_drew ?_))); (case side2 => exact (Kd.R_reads' HO262.out).2.1); (case side3 => repeat (first | exact (Kd.R_reads' HO266.out).2.2 | (with_reducible refine Kd.C_alloc ?_ _) | (with_reducible refine Kd.C_drewN ?_ _) | (with_reducible refine Kd.C_drew ?_))); (case side4 => exact (Kd.R_reads' HO266.out).2.1); rintro e w' ⟨rfl, ⟨nd, rfl⟩⟩) | (go_at_call 9; (with_reducible refine (impl_TokenText.calls _ _ t259 t269 _ ?side1 ?side2 A23.out).mono ?_); (case side1 => repeat (first | exact (Kd.R_reads' HO262.out).2.2 | (with_reducible refine Kd.C_alloc ?_ _) | (with_reducible refine Kd.C_drewN ?_ _) | (with_reducible refine Kd.C_drew ?_))); (case side2 => exact (Kd.R_reads' HO262.out).2.1); rintro e w27 ⟨rfl, hb⟩; replace HO256 := Aside0.mk (Kd.R_below (by (with_reducible repeat (first | apply Kd.R_alloc | apply Kd.R_drewN | apply Kd.R_drew)); exact HO256.out) hb); replace HO262 := Aside0.mk (Kd.R_below (by (with_reducible repeat (first | apply Kd.R_alloc | apply Kd.R_drewN | apply Kd.R_drew)); exact HO262.out) hb); replace HO266 := Aside0.mk (Kd.R_below (by (with_reducible repeat (first | apply Kd.R_alloc | apply Kd.R_drewN | apply Kd.R_drew)); exact HO266.out) hb); replace HB := bs HB hb; (try clear hb); (try clear hb2); (try clear hk); (try clear hi)))
       go_meet
       case rel => exact ⟨_, ((t269.toList != t258.toList)), (by first | rfl | (simp; done) | (simp [*]; done)), H', ⟨by first | omega | exact Nat.le_refl _⟩, ⟨by (with_reducible repeat (first | apply Kd.R_alloc | apply Kd.R_drewN | apply Kd.R_drew)); exact Kd.R_mono HO256.out (fun _ hk => trivial)⟩, ⟨bw HB⟩⟩
      ·replace c22 := Bool.eq_false_iff.mpr c22
       subst c22
       have H1 : (laws_FnTokenTexts.j0 k t254 t257 false) = some true := by rw [if_neg (show ¬ (false = true) by decide)] at H; first | done | exact H
       clear H
       have H := H1
       clear H1
       have H' := Aside0.mk H
       clear H
       go_wp2_with (first | ((with_reducible refine gate_callee (f := 7) rfl ?_); refine goesL_ (some 32) rfl rfl Tryd.func7 (by kernel_rfl) rfl #[.slice Ao11 t254.length co11] rfl (by (try simp only [List.map_toArray, List.map_cons, List.map_nil]); first | done | rfl | (simp only [List.length_drop, List.length_take]; rfl)) ?_; (with_reducible refine (spec_TokenText.calls k _ _ t254 t267 _ ?side1 ?side2 A16.out).mono ?_); (case side1 => repeat (first | exact (Kd.R_reads' HO256.out).2.2 | (with_reducible refine Kd.C_alloc ?_ _) | (with_reducible refine Kd.C_drewN ?_ _) | (with_reducible refine Kd.C_drew ?_))); (case side2 => exact (Kd.R_reads' HO256.out).2.1); rintro e w28 ⟨rfl, hb⟩; refine ⟨_, rfl, ?_⟩; replace HO256 := Aside0.mk (Kd.R_below (by (with_reducible repeat (first | apply Kd.R_alloc | apply Kd.R_drewN | apply Kd.R_drew)); exact HO256.out) hb); replace HO262 := Aside0.mk (Kd.R_below (by (with_reducible repeat (first | apply Kd.R_alloc | apply Kd.R_drewN | apply Kd.R_drew)); exact HO262.out) hb); replace HO266 := Aside0.mk (Kd.R_below (by (with_reducible repeat (first | apply Kd.R_alloc | apply Kd.R_drewN | apply Kd.R_drew)); exact HO266.out) hb); replace HB := bs HB hb; (try clear hb); (try clear hb2); (try clear hk); (try clear hi); obtain ⟨Ao29, co29, eo29⟩ := Kd.R_slice HO262.out; subst eo29; obtain ⟨Ao30, co30, eo30⟩ := Kd.R_slice HO266.out; subst eo30) | (go_at_call 18; (with_reducible refine (laws_sameToken.calls k _ _ t259 _ _ t263 true _ ?side1 ?side2 ?side3 ?side4 A20.out).mono ?_); (case side1 => repeat (first | exact (Kd.R_reads' HO262.out).2.2 | (with_reducible refine Kd.C_alloc ?_ _) | (with_reducible refine Kd.C_drewN ?_ _) | (with_reducible refine Kd.C_drew ?_))); (case side2 => exact (Kd.R_reads' HO262.out).2.1); (case side3 => repeat (first | exact (Kd.R_reads' HO266.out).2.2 | (with_reducible refine Kd.C_alloc ?_ _) | (with_reducible refine Kd.C_drewN ?_ _) | (with_reducible refine Kd.C_drew ?_))); (case side4 => exact (Kd.R_reads' HO266.out).2.1); rintro e w' ⟨rfl, ⟨nd, rfl⟩⟩))
       go_meet
       case rel => exact ⟨_, (false), (by first | rfl | (simp; done) | (simp [*]; done)), H', ⟨by first | omega | exact Nat.le_refl _⟩, ⟨by (with_reducible repeat (first | apply Kd.R_alloc | apply Kd.R_drewN | apply Kd.R_drew)); exact Kd.R_mono HO256.out (fun _ hk => trivial)⟩, ⟨bw HB⟩⟩
     ·replace c21 := Bool.eq_false_iff.mpr c21
      subst c21
      have H1 : (laws_FnTokenTexts.j0 k t254 t257 true) = some true := by rw [if_neg (show ¬ (false = true) by decide)] at H; first | done | exact H
      clear H
      have H := H1
      clear H1
      have H' := Aside0.mk H
      clear H
      go_wp2_with (first | ((with_reducible refine gate_callee (f := 7) rfl ?_); refine goesL_ (some 32) rfl rfl Tryd.func7 (by kernel_rfl) rfl #[.slice Ao11 t254.length co11] rfl (by (try simp only [List.map_toArray, List.map_cons, List.map_nil]); first | done | rfl | (simp only [List.length_drop, List.length_take]; rfl)) ?_; (with_reducible refine (spec_TokenText.calls k _ _ t254 t267 _ ?side1 ?side2 A16.out).mono ?_); (case side1 => repeat (first | exact (Kd.R_reads' HO256.out).2.2 | (with_reducible refine Kd.C_alloc ?_ _) | (with_reducible refine Kd.C_drewN ?_ _) | (with_reducible refine Kd.C_drew ?_))); (case side2 => exact (Kd.R_reads' HO256.out).2.1); rintro e w31 ⟨rfl, hb⟩; refine ⟨_, rfl, ?_⟩; replace HO256 := Aside0.mk (Kd.R_below (by (with_reducible repeat (first | apply Kd.R_alloc | apply Kd.R_drewN | apply Kd.R_drew)); exact HO256.out) hb); replace HO262 := Aside0.mk (Kd.R_below (by (with_reducible repeat (first | apply Kd.R_alloc | apply Kd.R_drewN | apply Kd.R_drew)); exact HO262.out) hb); replace HO266 := Aside0.mk (Kd.R_below (by (with_reducible repeat (first | apply Kd.R_alloc | apply Kd.R_drewN | apply Kd.R_drew)); exact HO266.out) hb); replace HB := bs HB hb; (try clear hb); (try clear hb2); (try clear hk); (try clear hi); obtain ⟨Ao32, co32, eo32⟩ := Kd.R_slice HO262.out; subst eo32; obtain ⟨Ao33, co33, eo33⟩ := Kd.R_slice HO266.out; subst eo33) | (go_at_call 18; (with_reducible refine (laws_sameToken.calls k _ _ t259 _ _ t263 false _ ?side1 ?side2 ?side3 ?side4 A20.out).mono ?_); (case side1 => repeat (first | exact (Kd.R_reads' HO262.out).2.2 | (with_reducible refine Kd.C_alloc ?_ _) | (with_reducible refine Kd.C_drewN ?_ _) | (with_reducible refine Kd.C_drew ?_))); (case side2 => exact (Kd.R_reads' HO262.out).2.1); (case side3 => repeat (first | exact (Kd.R_reads' HO266.out).2.2 | (with_reducible refine Kd.C_alloc ?_ _) | (with_reducible refine Kd.C_drewN ?_ _) | (with_reducible refine Kd.C_drew ?_))); (case side4 => exact (Kd.R_reads' HO266.out).2.1); rintro e w' ⟨rfl, ⟨nd, rfl⟩⟩))
      go_meet
      case rel => exact ⟨_, (true), (by first | rfl | (simp; done) | (simp [*]; done)), H', ⟨by first | omega | exact Nat.le_refl _⟩, ⟨by (with_reducible repeat (first | apply Kd.R_alloc | apply Kd.R_drewN | apply Kd.R_drew)); exact Kd.R_mono HO256.out (fun _ hk => trivial)⟩, ⟨bw HB⟩⟩
   ·rw [if_neg c17] at H
    have c17b0 : (t257.toList == t267.toList) = false := beq_eq_false_iff_ne.mpr c17
    have c17b1 : (t257.toList != t267.toList) = true := bne_iff_ne.mpr c17
    (first | rw [c17b0] | (simp only [i64_w, i32_w]; rw [c17b0]) | skip)
    have H' := Aside0.mk H
    clear H
    go_wp2_with (((with_reducible refine gate_callee (f := 7) rfl ?_); refine goesL_ (some 32) rfl rfl Tryd.func7 (by kernel_rfl) rfl #[.slice Ao11 t254.length co11] rfl (by (try simp only [List.map_toArray, List.map_cons, List.map_nil]); first | done | rfl | (simp only [List.length_drop, List.length_take]; rfl)) ?_; (with_reducible refine (spec_TokenText.calls k _ _ t254 t267 _ ?side1 ?side2 A16.out).mono ?_); (case side1 => repeat (first | exact (Kd.R_reads' HO256.out).2.2 | (with_reducible refine Kd.C_alloc ?_ _) | (with_reducible refine Kd.C_drewN ?_ _) | (with_reducible refine Kd.C_drew ?_))); (case side2 => exact (Kd.R_reads' HO256.out).2.1); rintro e w34 ⟨rfl, hb⟩; refine ⟨_, rfl, ?_⟩; replace HO256 := Aside0.mk (Kd.R_below (by (with_reducible repeat (first | apply Kd.R_alloc | apply Kd.R_drewN | apply Kd.R_drew)); exact HO256.out) hb); replace HO262 := Aside0.mk (Kd.R_below (by (with_reducible repeat (first | apply Kd.R_alloc | apply Kd.R_drewN | apply Kd.R_drew)); exact HO262.out) hb); replace HO266 := Aside0.mk (Kd.R_below (by (with_reducible repeat (first | apply Kd.R_alloc | apply Kd.R_drewN | apply Kd.R_drew)); exact HO266.out) hb); replace HB := bs HB hb; (try clear hb); (try clear hb2); (try clear hk); (try clear hi)))
    go_meet
    case rel => exact ⟨_, (true), (by first | rfl | (simp; done) | (simp [*]; done)), H', ⟨by first | omega | exact Nat.le_refl _⟩, ⟨by (with_reducible repeat (first | apply Kd.R_alloc | apply Kd.R_drewN | apply Kd.R_drew)); exact Kd.R_mono HO256.out (fun _ hk => trivial)⟩, ⟨bw HB⟩⟩
  case rest =>
   clear HC9
   try clear c1
   try clear c2
   try clear p2
   try clear c3
   try clear c5
   try clear c7
   try clear c9
   try clear c11
   try clear c12
   try clear c15
   try clear c16
   try clear c17
   try clear c17b0
   try clear c17b1
   try clear c18
   try clear c18b0
   try clear c18b1
   try clear c18b2
   try clear c21
   try clear c22
   obtain ⟨kq, x53_8, rfl, HA, HJ8, HO_3, HB⟩ := hcut
   cases kq with
   | zero => exact absurd HA.out (by simp [laws_FnTokenTexts.j0])
   | succ kj8 =>
    have H := HA.out
    clear HA
    simp only [laws_FnTokenTexts.j0] at H
    by_cases c35 : x53_8 = true
    ·subst c35
     have H1 : (some false) = some true := by rw [if_pos rfl] at H; first | done | exact H
     clear H
     have H := H1
     clear H1
     exact absurd (Option.some.inj H) (by decide)
    ·replace c35 := Bool.eq_false_iff.mpr c35
     subst c35
     have H1 : ((impl_ReadToken.f t257).bind fun bt270 => ((spec_TokenOk.f kj8 t254).bind fun t274 => (if (bt270.2 == t274) = true then ((impl_TokenOk.f t254).bind fun t275 => (if (bt270.2 == t275) = true then (if bt270.2 = true then ((laws_sameToken.f kj8 bt270.1 t254).bind fun t276 => (some t276)) else (some true)) else (some false))) else (some false)))) = some true := by rw [if_neg (show ¬ (false = true) by decide)] at H; first | done | exact H
     clear H
     have H := H1
     clear H1
     replace H := Option.bind_eq_some_iff.mp H
     obtain ⟨⟨t270, t271⟩, A360, H⟩ := H
     replace H : ((spec_TokenOk.f kj8 t254).bind fun t274 => (if (t271 == t274) = true then ((impl_TokenOk.f t254).bind fun t275 => (if (t271 == t275) = true then (if t271 = true then ((laws_sameToken.f kj8 t270 t254).bind fun t276 => (some t276)) else (some true)) else (some false))) else (some false))) = some true := H
     have A36 := Aside0.mk A360
     clear A360
     replace H := Option.bind_eq_some_iff.mp H
     obtain ⟨t274, A370, H⟩ := H
     replace H : (if (t271 == t274) = true then ((impl_TokenOk.f t254).bind fun t275 => (if (t271 == t275) = true then (if t271 = true then ((laws_sameToken.f kj8 t270 t254).bind fun t276 => (some t276)) else (some true)) else (some false))) else (some false)) = some true := H
     have A37 := Aside0.mk A370
     clear A370
     by_cases c38 : (t271 == t274) = true
     ·rw [if_pos c38] at H
      have c38b0 : (t271 == t274) = true := c38
      (try (have c38b1 : decide (t271 = t274) = true := by simpa using c38))
      (try (have c38b2 : (t271 == t274) = true := by simpa using c38))
      clear c38
      replace H := Option.bind_eq_some_iff.mp H
      obtain ⟨t275, A390, H⟩ := H
      replace H : (if (t271 == t275) = true then (if t271 = true then ((laws_sameToken.f kj8 t270 t254).bind fun t276 => (some t276)) else (some true)) else (some false)) = some true := H
      have A39 := Aside0.mk A390
      clear A390
      by_cases c40 : (t271 == t275) = true
      ·rw [if_pos c40] at H
       have c40b0 : (t271 == t275) = true := c40
       (try (have c40b1 : decide (t271 = t275) = true := by simpa using c40))
       (try (have c40b2 : (t271 == t275) = true := by simpa using c40))
       clear c40
       by_cases c41 : t271 = true
       ·subst c41
        have H1 : ((laws_sameToken.f kj8 t270 t254).bind fun t276 => (some t276)) = some true := by rw [if_pos rfl] at H; first | done | exact H
        clear H
        have H := H1
        clear H1
        replace H := Option.bind_eq_some_iff.mp H
        obtain ⟨t276, A420, H⟩ := H
        replace H : (some t276) = some true := H
        have A42 := Aside0.mk A420
        clear A420
        have HE_ := Aside0.mk (Option.some.inj H)
        clear H
        go_wp2_with (first | ((with_reducible refine gate_callee (f := 12) rfl ?_); refine goesL_ (some 56) rfl rfl Tryd.func12 (by kernel_rfl) rfl #[.string t257] rfl (by (try simp only [List.map_toArray, List.map_cons, List.map_nil]); first | done | rfl | (simp only [List.length_drop, List.length_take]; rfl)) ?_; (with_reducible refine (impl_ReadToken.calls t257 t270 true _ A36.out).mono ?_); rintro e w43 ⟨v272, rfl, ho0, hb⟩; refine ⟨_, rfl, ?_⟩; have HO273 := Aside0.mk (Kd.R_lower (Kd.R_new' ho0 (Kd.R_lt (by (with_reducible repeat (first | apply Kd.R_alloc | apply Kd.R_drewN | apply Kd.R_drew)); exact HO_3.out))) (below_size (bw HB))); replace HO_3 := Aside0.mk (Kd.R_elder' (by (with_reducible repeat (first | apply Kd.R_alloc | apply Kd.R_drewN | apply Kd.R_drew)); exact HO_3.out) (Kd.R_base ho0) hb); replace HB := bs HB hb; (try clear hb); (try clear hb2); (try clear hk); (try clear hi); (try clear ho0)) | ((with_reducible refine gate_callee (f := 19) rfl ?_); refine goesL_ (some 61) rfl rfl Tryd.func19 (by kernel_rfl) rfl #[.slice Ao11 t254.length co11] rfl (by (try simp only [List.map_toArray, List.map_cons, List.map_nil]); first | done | rfl | (simp only [List.length_drop, List.length_take]; rfl)) ?_; (with_reducible refine (spec_TokenOk.calls kj8 _ _ t254 t274 _ ?side1 ?side2 A37.out).mono ?_); (case side1 => repeat (first | exact (Kd.R_reads' HO_3.out).2.2 | (with_reducible refine Kd.C_alloc ?_ _) | (with_reducible refine Kd.C_drewN ?_ _) | (with_reducible refine Kd.C_drew ?_))); (case side2 => exact (Kd.R_reads' HO_3.out).2.1); rintro e w' ⟨rfl, ⟨nd, rfl⟩⟩; refine ⟨_, rfl, ?_⟩) | (go_at_call 20; (with_reducible refine (impl_TokenOk.calls _ _ t254 t275 _ ?side1 ?side2 A39.out).mono ?_); (case side1 => repeat (first | exact (Kd.R_reads' HO_3.out).2.2 | (with_reducible refine Kd.C_alloc ?_ _) | (with_reducible refine Kd.C_drewN ?_ _) | (with_reducible refine Kd.C_drew ?_))); (case side2 => exact (Kd.R_reads' HO_3.out).2.1); rintro e w44 ⟨rfl, hb⟩; replace HO_3 := Aside0.mk (Kd.R_below (by (with_reducible repeat (first | apply Kd.R_alloc | apply Kd.R_drewN | apply Kd.R_drew)); exact HO_3.out) hb); replace HO273 := Aside0.mk (Kd.R_below (by (with_reducible repeat (first | apply Kd.R_alloc | apply Kd.R_drewN | apply Kd.R_drew)); exact HO273.out) hb); replace HB := bs HB hb; (try clear hb); (try clear hb2); (try clear hk); (try clear hi); obtain ⟨Ao45, co45, eo45⟩ := Kd.R_slice HO273.out; subst eo45) | (go_at_call 18; (with_reducible refine (laws_sameToken.calls kj8 _ _ t270 _ _ t254 t276 _ ?side1 ?side2 ?side3 ?side4 A42.out).mono ?_); (case side1 => repeat (first | exact (Kd.R_reads' HO273.out).2.2 | (with_reducible refine Kd.C_alloc ?_ _) | (with_reducible refine Kd.C_drewN ?_ _) | (with_reducible refine Kd.C_drew ?_))); (case side2 => exact (Kd.R_reads' HO273.out).2.1); (case side3 => repeat (first | exact (Kd.R_reads' HO_3.out).2.2 | (with_reducible refine Kd.C_alloc ?_ _) | (with_reducible refine Kd.C_drewN ?_ _) | (with_reducible refine Kd.C_drew ?_))); (case side4 => exact (Kd.R_reads' HO_3.out).2.1); rintro e w' ⟨rfl, ⟨nd, rfl⟩⟩))
        go_ret
        exact ⟨by first | rfl | exact congrArg (fun b_ => Ending.returned (Value.bool b_)) HE_.out | (refine absurd HE_.out ?_; simp [*]; done) | (have h_ := HE_.out; clear HE_; simp_all; done) | (have h_ := HE_.out; clear HE_; simp_all; omega) | (simp [errW_none, errW_some] <;> rfl) | (simp [*, errW_none, errW_some] <;> rfl), bw HB⟩
       ·replace c41 := Bool.eq_false_iff.mpr c41
        subst c41
        have H1 : (some true) = some true := by rw [if_neg (show ¬ (false = true) by decide)] at H; first | done | exact H
        clear H
        have H := H1
        clear H1
        have HE_ := Aside0.mk (Option.some.inj H)
        clear H
        go_wp2_with (first | ((with_reducible refine gate_callee (f := 12) rfl ?_); refine goesL_ (some 56) rfl rfl Tryd.func12 (by kernel_rfl) rfl #[.string t257] rfl (by (try simp only [List.map_toArray, List.map_cons, List.map_nil]); first | done | rfl | (simp only [List.length_drop, List.length_take]; rfl)) ?_; (with_reducible refine (impl_ReadToken.calls t257 t270 false _ A36.out).mono ?_); rintro e w46 ⟨v272, rfl, ho0, hb⟩; refine ⟨_, rfl, ?_⟩; have HO273 := Aside0.mk (Kd.R_lower (Kd.R_new' ho0 (Kd.R_lt (by (with_reducible repeat (first | apply Kd.R_alloc | apply Kd.R_drewN | apply Kd.R_drew)); exact HO_3.out))) (below_size (bw HB))); replace HO_3 := Aside0.mk (Kd.R_elder' (by (with_reducible repeat (first | apply Kd.R_alloc | apply Kd.R_drewN | apply Kd.R_drew)); exact HO_3.out) (Kd.R_base ho0) hb); replace HB := bs HB hb; (try clear hb); (try clear hb2); (try clear hk); (try clear hi); (try clear ho0)) | ((with_reducible refine gate_callee (f := 19) rfl ?_); refine goesL_ (some 61) rfl rfl Tryd.func19 (by kernel_rfl) rfl #[.slice Ao11 t254.length co11] rfl (by (try simp only [List.map_toArray, List.map_cons, List.map_nil]); first | done | rfl | (simp only [List.length_drop, List.length_take]; rfl)) ?_; (with_reducible refine (spec_TokenOk.calls kj8 _ _ t254 t274 _ ?side1 ?side2 A37.out).mono ?_); (case side1 => repeat (first | exact (Kd.R_reads' HO_3.out).2.2 | (with_reducible refine Kd.C_alloc ?_ _) | (with_reducible refine Kd.C_drewN ?_ _) | (with_reducible refine Kd.C_drew ?_))); (case side2 => exact (Kd.R_reads' HO_3.out).2.1); rintro e w' ⟨rfl, ⟨nd, rfl⟩⟩; refine ⟨_, rfl, ?_⟩) | (go_at_call 20; (with_reducible refine (impl_TokenOk.calls _ _ t254 t275 _ ?side1 ?side2 A39.out).mono ?_); (case side1 => repeat (first | exact (Kd.R_reads' HO_3.out).2.2 | (with_reducible refine Kd.C_alloc ?_ _) | (with_reducible refine Kd.C_drewN ?_ _) | (with_reducible refine Kd.C_drew ?_))); (case side2 => exact (Kd.R_reads' HO_3.out).2.1); rintro e w47 ⟨rfl, hb⟩; replace HO_3 := Aside0.mk (Kd.R_below (by (with_reducible repeat (first | apply Kd.R_alloc | apply Kd.R_drewN | apply Kd.R_drew)); exact HO_3.out) hb); replace HO273 := Aside0.mk (Kd.R_below (by (with_reducible repeat (first | apply Kd.R_alloc | apply Kd.R_drewN | apply Kd.R_drew)); exact HO273.out) hb); replace HB := bs HB hb; (try clear hb); (try clear hb2); (try clear hk); (try clear hi)))
        go_ret
        exact ⟨by first | rfl | exact congrArg (fun b_ => Ending.returned (Value.bool b_)) HE_.out | (refine absurd HE_.out ?_; simp [*]; done) | (have h_ := HE_.out; clear HE_; simp_all; done) | (have h_ := HE_.out; clear HE_; simp_all; omega) | (simp [errW_none, errW_some] <;> rfl) | (simp [*, errW_none, errW_some] <;> rfl), bw HB⟩
      ·rw [if_neg c40] at H
       have c40b0 : (t271 == t275) = false := by simpa using c40
       (try (have c40b1 : decide (t271 = t275) = false := by simpa using c40))
       (try (have c40b2 : (t271 == t275) = false := by simpa using c40))
       (try (have c40b3 : ¬ (t271 = t275) := by simpa using c40))
       clear c40
       exact absurd (Option.some.inj H) (by decide)
     ·rw [if_neg c38] at H
      have c38b0 : (t271 == t274) = false := by simpa using c38
      (try (have c38b1 : decide (t271 = t274) = false := by simpa using c38))
      (try (have c38b2 : (t271 == t274) = false := by simpa using c38))
      (try (have c38b3 : ¬ (t271 = t274) := by simpa using c38))
      clear c38
      exact absurd (Option.some.inj H) (by decide)

end Go.Proofs.YtojlcngdcodgbaaDoor.Q
