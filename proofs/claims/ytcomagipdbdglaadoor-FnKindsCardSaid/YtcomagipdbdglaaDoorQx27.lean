-- Contracts of the program's functions, each with the plain function that it computes.
import Derived.Test.YtcomagipdbdglaaDoorQx0
import Derived.Test.YtcomagipdbdglaaDoorZipB
import Derived.Test.YtcomagipdbdglaaDoorQx5
import Derived.Test.YtcomagipdbdglaaDoorQx11
import Derived.Test.YtcomagipdbdglaaDoorQx17
import Derived.Test.YtcomagipdbdglaaDoorQx26
namespace Go.Proofs.YtcomagipdbdglaaDoor.Q
open Go.RowKit Go.Proofs.YtcomagipdbdglaaDoorW.PrintWords Go.Proofs.YtcomagipdbdglaaDoorW.PrintLast Go.Proofs.YtcomagipdbdglaaDoorW.PrintMore
attribute [local go_sem] max2_int min2_int max_two min_two max_three min_three max_four min_four   -- for this text's walks alone
set_option linter.unusedVariables false
set_option linter.unusedSimpArgs false

/-! ### laws_FnKinds: function 11 -/
def laws_FnKinds.j0 : Nat → List (S86) → Int → Bool → List ByteArray → List ByteArray → List (S91) → Option (Bool)
 | 0, _, _, _, _, _, _ => none
 | k + 1, x4, x5, x31, x484000, x484001, x484002 => if x31 = true then ((spec_ExprOk.f k x484000 x484001 x484002 x4).bind fun t486 => (some (x5 == t486))) else ((some (([] : List (S86)) : List (S86))).bind fun y487 => (if y487.length + x4.length < 8796093022208 then ((some (y487 ++ x4 : List (S86))).bind fun y490 => ((some (([(⟨19, 0⟩ : S86)] : List (S86)) : List (S86))).bind fun y493 => (if y490.length + y493.length < 8796093022208 then ((impl_ExprOk.f x484000 x484001 x484002 (y490 ++ y493)).bind fun t499 => ((some (([] : List (S86)) : List (S86))).bind fun y500 => (if y500.length + x4.length < 8796093022208 then ((some (y500 ++ x4 : List (S86))).bind fun y503 => ((some (([(⟨7, 0⟩ : S86)] : List (S86)) : List (S86))).bind fun y506 => (if y503.length + y506.length < 8796093022208 then ((impl_ExprOk.f x484000 x484001 x484002 (y503 ++ y506)).bind fun t512 => ((impl_DeclOk.f x484000 x484001 x484002).bind fun t513 => (if t513 = true then (if x5 = 1 then (if t499 = 0 then (if t512 = 1 then (some true) else (if x5 = 2 then (if t499 = 2 then (some (t512 == 0)) else (some false)) else (some false))) else (if x5 = 2 then (if t499 = 2 then (some (t512 == 0)) else (some false)) else (some false))) else (if x5 = 2 then (if t499 = 2 then (some (t512 == 0)) else (some false)) else (some false))) else (some false)))) else (none)))) else (none)))) else (none)))) else (none)))
def laws_FnKinds.f (k : Nat) (l0 : List Int) : Option (Bool) := (laws_big.f l0).bind fun t470 => (if t470 = true then (some true) else ((spec_DrawExprOk.f k l0).bind fun bt471 => ((impl_ExprOk.f bt471.1 bt471.2.1 bt471.2.2.1 bt471.2.2.2).bind fun t484 => ((spec_ExprOk.f k bt471.1 bt471.2.1 bt471.2.2.1 bt471.2.2.2).bind fun t485 => (if t484 = t485 then (if t484 = 0 then (laws_FnKinds.j0 k bt471.2.2.2 t484 true bt471.1 bt471.2.1 bt471.2.2.1) else (laws_FnKinds.j0 k bt471.2.2.2 t484 (decide ((bt471.2.2.2.length : Int) > 38)) bt471.1 bt471.2.1 bt471.2.2.1)) else (laws_FnKinds.j0 k bt471.2.2.2 t484 true bt471.1 bt471.2.1 bt471.2.2.1))))))
theorem laws_FnKinds.mono_l : ∀ k, (∀ y0 y1 y2 y3 y4 y5, LeO (laws_FnKinds.j0 k y0 y1 y2 y3 y4 y5) (laws_FnKinds.j0 (k + 1) y0 y1 y2 y3 y4 y5))
 | 0 => fun _ _ _ _ _ _ r h => by simp [laws_FnKinds.j0] at h
 | k + 1 => by
  have ih0 := laws_FnKinds.mono_l k
  ·intro y0 y1 y2 y3 y4 y5
   unfold laws_FnKinds.j0
   repeat' first
   | (with_reducible exact ih0 _ _ _ _ _ _)
   | (with_reducible exact spec_DrawExprOk.mono _ _)
   | (with_reducible exact spec_ExprOk.mono _ _ _ _ _)
   | (with_reducible exact LeO.refl _)
   | (with_reducible exact LeO.none _)
   | (with_reducible refine LeO.ite ?_ ?_)
   | (with_reducible refine LeO.bind ?_ (fun _ => ?_))
   | exact ih0 _ _ _ _ _ _
   | exact spec_DrawExprOk.mono _ _
   | exact spec_ExprOk.mono _ _ _ _ _
   | exact LeO.none _
   | refine LeO.ite ?_ ?_
   | refine LeO.bind ?_ (fun _ => ?_)
theorem laws_FnKinds.mono : ∀ a0 k, LeO (laws_FnKinds.f k a0) (laws_FnKinds.f (k + 1) a0) := by
 intro a0 k
 have ih0 := laws_FnKinds.mono_l k
 unfold laws_FnKinds.f
 repeat' first
   | (with_reducible exact ih0 _ _ _ _ _ _)
   | (with_reducible exact spec_DrawExprOk.mono _ _)
   | (with_reducible exact spec_ExprOk.mono _ _ _ _ _)
   | (with_reducible exact LeO.refl _)
   | (with_reducible exact LeO.none _)
   | (with_reducible refine LeO.ite ?_ ?_)
   | (with_reducible refine LeO.bind ?_ (fun _ => ?_))
   | exact ih0 _ _ _ _ _ _
   | exact spec_DrawExprOk.mono _ _
   | exact spec_ExprOk.mono _ _ _ _ _
   | exact LeO.none _
   | refine LeO.ite ?_ ?_
   | refine LeO.bind ?_ (fun _ => ?_)
def laws_FnKinds.T7 : Bool × List (List Nat × List Nat) := (true, [([], []), ([], []), ([], []), ([1, 2], [1, 2]), ([], []), ([4], [4]), ([3, 5, 3], [3, 5]), ([0, 6, 6], [0, 6]), ([7, 7, 0, 1, 2, 3, 4, 5, 6, 7], [7])])
def laws_FnKinds.B7 : List Nat := [0, 0, 0, 6, 0, 16, 62, 127, 255]
theorem laws_FnKinds.tab7 : rtab .any (opsOf Tryd.f11 7) = laws_FnKinds.T7 := by kernel_rfl
theorem laws_FnKinds.bits7 : waitsOk laws_FnKinds.T7.2 laws_FnKinds.B7 = true := by kernel_rfl
def laws_FnKinds.T8 : Bool × List (List Nat × List Nat) := (true, [([], []), ([], []), ([], []), ([1, 2], [1, 2]), ([], []), ([4], [4]), ([3, 5, 3], [3, 5]), ([0, 6, 6], [0, 6]), ([7, 7, 0, 1, 2, 3, 4, 5, 6, 7], [7])])
def laws_FnKinds.B8 : List Nat := [0, 0, 0, 6, 0, 16, 62, 127, 255]
theorem laws_FnKinds.tab8 : rtab .any (opsOf Tryd.f11 8) = laws_FnKinds.T8 := by kernel_rfl
theorem laws_FnKinds.bits8 : waitsOk laws_FnKinds.T8.2 laws_FnKinds.B8 = true := by kernel_rfl
set_option maxHeartbeats 8000000 in
set_option maxRecDepth 100000 in
theorem laws_FnKinds.calls (k : Nat) (A0 : Option Addr) (c0 : Nat) (l0 : List Int) (w : World) (hr0 : Kd.C (Kd.int .u8) w A0 l0.length l0) (hc0 : l0.length ≤ c0) (h : laws_FnKinds.f k l0 = some true) (hTAB : TabW w := by first | exact HTAB.out | exact TabW.drewN HTAB.out _ | exact TabW.below HTAB.out (by repeat (first | (with_reducible first | exact HB.out | apply below_alloc | apply pw_below_drewN | apply below_drew1 | refine below_set ?_ (Aside0.out (by assumption))) | exact HB.out))) :
  Calls Tryd.prog 11 #[.slice A0 l0.length c0] w fun e w' => e = .returned (.bool true) ∧ Below w.heap.size w w' := by
 have HTAB := Aside0.mk hTAB
 clear hTAB
 have hu30 := Tryd.underlying30
 have hu86 := Tryd.underlying86
 have HR0 := Aside0.mk hr0
 have HC0 := Aside0.mk hc0
 clear hr0 hc0
 have HB := Aside0.mk (Below.refl w.heap.size w)
 have H : ((laws_big.f l0).bind fun t470 => (if t470 = true then (some true) else ((spec_DrawExprOk.f k l0).bind fun bt471 => ((impl_ExprOk.f bt471.1 bt471.2.1 bt471.2.2.1 bt471.2.2.2).bind fun t484 => ((spec_ExprOk.f k bt471.1 bt471.2.1 bt471.2.2.1 bt471.2.2.2).bind fun t485 => (if t484 = t485 then (if t484 = 0 then (laws_FnKinds.j0 k bt471.2.2.2 t484 true bt471.1 bt471.2.1 bt471.2.2.1) else (laws_FnKinds.j0 k bt471.2.2.2 t484 (decide ((bt471.2.2.2.length : Int) > 38)) bt471.1 bt471.2.1 bt471.2.2.1)) else (laws_FnKinds.j0 k bt471.2.2.2 t484 true bt471.1 bt471.2.1 bt471.2.2.1))))))) = some true := h
 clear h
 replace H := Option.bind_eq_some_iff.mp H
 obtain ⟨t470, A20, H⟩ := H
 replace H : (if t470 = true then (some true) else ((spec_DrawExprOk.f k l0).bind fun bt471 => ((impl_ExprOk.f bt471.1 bt471.2.1 bt471.2.2.1 bt471.2.2.2).bind fun t484 => ((spec_ExprOk.f k bt471.1 bt471.2.1 bt471.2.2.1 bt471.2.2.2).bind fun t485 => (if t484 = t485 then (if t484 = 0 then (laws_FnKinds.j0 k bt471.2.2.2 t484 true bt471.1 bt471.2.1 bt471.2.2.1) else (laws_FnKinds.j0 k bt471.2.2.2 t484 (decide ((bt471.2.2.2.length : Int) > 38)) bt471.1 bt471.2.1 bt471.2.2.1)) else (laws_FnKinds.j0 k bt471.2.2.2 t484 true bt471.1 bt471.2.1 bt471.2.2.1)))))) = some true := H
 have A2 := Aside0.mk A20
 clear A20
 by_cases c3 : t470 = true
 ·subst c3
  have H1 : (some true) = some true := by rw [if_pos rfl] at H; first | done | exact H
  clear H
  have H := H1
  clear H1
  have HE_ := Aside0.mk (Option.some.inj H)
  clear H
  go_enter Tryd.func11, Tryd.ntmps11
  go_wp2_with (((with_reducible refine gate_callee (f := 44) rfl ?_); refine goesL_ (some 9) rfl rfl Tryd.func44 (by kernel_rfl) rfl #[.slice A0 l0.length c0] rfl (by (try simp only [List.map_toArray, List.map_cons, List.map_nil]); first | done | rfl | (simp only [List.length_drop, List.length_take]; rfl)) ?_; (with_reducible refine (laws_big.calls _ _ l0 true _ ?side1 ?side2 A2.out).mono ?_); (case side1 => repeat (first | exact HR0.out | (with_reducible refine Kd.C_alloc ?_ _) | (with_reducible refine Kd.C_drewN ?_ _) | (with_reducible refine Kd.C_drew ?_))); (case side2 => exact HC0.out); rintro e w' ⟨rfl, ⟨nd, rfl⟩⟩; refine ⟨_, rfl, ?_⟩))
  go_ret
  exact ⟨by first | rfl | exact congrArg (fun b_ => Ending.returned (Value.bool b_)) HE_.out | (refine absurd HE_.out ?_; simp [*]; done) | (have h_ := HE_.out; clear HE_; simp_all; done) | (have h_ := HE_.out; clear HE_; simp_all; omega) | (simp [errW_none, errW_some] <;> rfl) | (simp [*, errW_none, errW_some] <;> rfl), bw HB⟩
 ·replace c3 := Bool.eq_false_iff.mpr c3
  subst c3
  have H1 : ((spec_DrawExprOk.f k l0).bind fun bt471 => ((impl_ExprOk.f bt471.1 bt471.2.1 bt471.2.2.1 bt471.2.2.2).bind fun t484 => ((spec_ExprOk.f k bt471.1 bt471.2.1 bt471.2.2.1 bt471.2.2.2).bind fun t485 => (if t484 = t485 then (if t484 = 0 then (laws_FnKinds.j0 k bt471.2.2.2 t484 true bt471.1 bt471.2.1 bt471.2.2.1) else (laws_FnKinds.j0 k bt471.2.2.2 t484 (decide ((bt471.2.2.2.length : Int) > 38)) bt471.1 bt471.2.1 bt471.2.2.1)) else (laws_FnKinds.j0 k bt471.2.2.2 t484 true bt471.1 bt471.2.1 bt471.2.2.1))))) = some true := by rw [if_neg (show ¬ (false = true) by decide)] at H; first | done | exact H
  clear H
  have H := H1
  clear H1
  replace H := Option.bind_eq_some_iff.mp H
  obtain ⟨⟨t471, t474, t477, t480⟩, A40, H⟩ := H
  replace H : ((impl_ExprOk.f t471 t474 t477 t480).bind fun t484 => ((spec_ExprOk.f k t471 t474 t477 t480).bind fun t485 => (if t484 = t485 then (if t484 = 0 then (laws_FnKinds.j0 k t480 t484 true t471 t474 t477) else (laws_FnKinds.j0 k t480 t484 (decide ((t480.length : Int) > 38)) t471 t474 t477)) else (laws_FnKinds.j0 k t480 t484 true t471 t474 t477)))) = some true := H
  have A4 := Aside0.mk A40
  clear A40
  replace H := Option.bind_eq_some_iff.mp H
  obtain ⟨t484, A50, H⟩ := H
  replace H : ((spec_ExprOk.f k t471 t474 t477 t480).bind fun t485 => (if t484 = t485 then (if t484 = 0 then (laws_FnKinds.j0 k t480 t484 true t471 t474 t477) else (laws_FnKinds.j0 k t480 t484 (decide ((t480.length : Int) > 38)) t471 t474 t477)) else (laws_FnKinds.j0 k t480 t484 true t471 t474 t477))) = some true := H
  have A5 := Aside0.mk A50
  clear A50
  have HC6 := Aside0.mk H
  clear H
  go_enter Tryd.func11, Tryd.ntmps11
  go_upto_region 5 with (first | ((with_reducible refine gate_callee (f := 44) rfl ?_); refine goesL_ (some 9) rfl rfl Tryd.func44 (by kernel_rfl) rfl #[.slice A0 l0.length c0] rfl (by (try simp only [List.map_toArray, List.map_cons, List.map_nil]); first | done | rfl | (simp only [List.length_drop, List.length_take]; rfl)) ?_; (with_reducible refine (laws_big.calls _ _ l0 false _ ?side1 ?side2 A2.out).mono ?_); (case side1 => repeat (first | exact HR0.out | (with_reducible refine Kd.C_alloc ?_ _) | (with_reducible refine Kd.C_drewN ?_ _) | (with_reducible refine Kd.C_drew ?_))); (case side2 => exact HC0.out); rintro e w' ⟨rfl, ⟨nd, rfl⟩⟩; refine ⟨_, rfl, ?_⟩) | ((with_reducible refine gate_callee (f := 50) rfl ?_); refine goesL_ (some 12) rfl rfl Tryd.func50 (by kernel_rfl) rfl #[.slice A0 l0.length c0] rfl (by (try simp only [List.map_toArray, List.map_cons, List.map_nil]); first | done | rfl | (simp only [List.length_drop, List.length_take]; rfl)) ?_; (with_reducible refine (spec_DrawExprOk.calls k _ _ l0 t471 t474 t477 t480 _ ?side1 ?side2 A4.out).mono ?_); (case side1 => repeat (first | exact HR0.out | (with_reducible refine Kd.C_alloc ?_ _) | (with_reducible refine Kd.C_drewN ?_ _) | (with_reducible refine Kd.C_drew ?_))); (case side2 => exact HC0.out); rintro e w7 ⟨v472, v475, v478, v481, rfl, ho0, ho1, ho2, ho3, hb⟩; refine ⟨_, rfl, ?_⟩; have HO473 := Aside0.mk (Kd.R_lower ho0 (below_size (bw HB))); have HO476 := Aside0.mk (Kd.R_lower ho1 (below_size (bw HB))); have HO479 := Aside0.mk (Kd.R_lower ho2 (below_size (bw HB))); have HO482 := Aside0.mk (Kd.R_lower ho3 (below_size (bw HB))); replace HB := bs HB hb; (try clear hb); (try clear hb2); (try clear hk); (try clear hi); (try clear ho0); (try clear ho1); (try clear ho2); (try clear ho3)) | ((with_reducible refine gate_dst (N := 3) rfl ?_); (try (refine gate_guard (by rfl) ?_; dsimp only)); refine box_event ?hg (N := 3) ?hd (cs := #[.slice none 0 0, .slice none 0 0, .slice none 0 0]) (t := 30) ?hr ?_; (case hd => rfl); (case hg => rfl); (case hr => first | (go_simp; done) | (go_simp; rfl)); intro gb483 hg w8 hbox hb; replace HO473 := Aside0.mk (Kd.R_below (rk HO473) hb); replace HO476 := Aside0.mk (Kd.R_below (rk HO476) hb); replace HO479 := Aside0.mk (Kd.R_below (rk HO479) hb); replace HO482 := Aside0.mk (Kd.R_below (rk HO482) hb); have BK483 := Aside0.mk (hbox); have GW483 := bz HB hg; have GE483 := bz HB hg; replace HB := bs HB hb; clear hb hbox hg; obtain ⟨Ao9, co9, eo9⟩ := Kd.R_slice HO473.out; subst eo9; have hcz10_0 : w8.cell? ⟨gb483, 0, none⟩ = some (.slice none 0 0) := (blk_cell BK483.out 0).trans rfl; have hcz10_1 : w8.cell? ⟨gb483, 1, none⟩ = some (.slice none 0 0) := (blk_cell BK483.out 1).trans rfl; have hcz10_2 : w8.cell? ⟨gb483, 2, none⟩ = some (.slice none 0 0) := (blk_cell BK483.out 2).trans rfl; have hfz10_0 := blk_frozen BK483.out 0; have hfz10_1 := blk_frozen BK483.out 1; have hfz10_2 := blk_frozen BK483.out 2; obtain ⟨Ao11, co11, eo11⟩ := Kd.R_slice HO476.out; subst eo11; obtain ⟨Ao12, co12, eo12⟩ := Kd.R_slice HO479.out; subst eo12; obtain ⟨Ao13, co13, eo13⟩ := Kd.R_slice HO482.out; subst eo13) | ((with_reducible refine gate_callee (f := 37) rfl ?_); refine goesL_ (some 17) rfl rfl Tryd.func37 (by kernel_rfl) rfl #[.agg #[.slice Ao9 t471.length co9, .slice Ao11 t474.length co11, .slice Ao12 t477.length co12], .slice Ao13 t480.length co13] rfl (by (try simp only [List.map_toArray, List.map_cons, List.map_nil]); first | done | rfl | (simp only [List.length_drop, List.length_take]; rfl)) ?_; (with_reducible refine (impl_ExprOk.calls _ _ t471 _ _ t474 _ _ t477 _ _ t480 t484 _ ?side1 ?side2 ?side3 ?side4 ?side5 ?side6 ?side7 ?side8 A5.out).mono ?_); (case side1 => refine (Kd.R_reads' (e := 9) (base := w.heap.size) (ok := fun k_ => some k_ ≠ (.slice Ao11 t474.length co11 : Value).ownBlock) (n := t471.length) (c := co9) ?_).2.2; exact (by (with_reducible repeat (first | apply Kd.R_alloc | apply Kd.R_drewN | apply Kd.R_drew)); exact (Kd.R_mono (Kd.R_far (p := ⟨gb483, 2, none⟩) (Kd.R_far (p := ⟨gb483, 1, none⟩) (Kd.R_far (p := ⟨gb483, 0, none⟩) (Kd.R_types HO473.out BK483.out (by decide)) (fun _ hk => hk.2) (.slice Ao9 t471.length co9)) (fun _ hk => hk.2) (.slice Ao11 t474.length co11)) (fun _ hk => hk.2) (.slice Ao12 t477.length co12)) (fun _ h_ => h_.1)))); (case side2 => exact (Kd.R_reads' HO473.out).2.1); (case side3 => refine (Kd.R_reads' (e := 9) (base := w.heap.size) (ok := fun k_ => some k_ ≠ (.slice Ao9 t471.length co9 : Value).ownBlock) (n := t474.length) (c := co11) ?_).2.2; exact (by (with_reducible repeat (first | apply Kd.R_alloc | apply Kd.R_drewN | apply Kd.R_drew)); exact (Kd.R_mono (Kd.R_far (p := ⟨gb483, 2, none⟩) (Kd.R_far (p := ⟨gb483, 1, none⟩) (Kd.R_far (p := ⟨gb483, 0, none⟩) (Kd.R_types HO476.out BK483.out (by decide)) (fun _ hk => hk.2) (.slice Ao9 t471.length co9)) (fun _ hk => hk.2) (.slice Ao11 t474.length co11)) (fun _ hk => hk.2) (.slice Ao12 t477.length co12)) (fun _ h_ => h_.1)))); (case side4 => exact (Kd.R_reads' HO476.out).2.1); (case side5 => refine (Kd.R_reads' (e := 91) (base := w.heap.size) (ok := fun k_ => True) (n := t477.length) (c := co12) ?_).2.2; exact (by (with_reducible repeat (first | apply Kd.R_alloc | apply Kd.R_drewN | apply Kd.R_drew)); exact (Kd.R_mono (Kd.R_far (p := ⟨gb483, 2, none⟩) (Kd.R_far (p := ⟨gb483, 1, none⟩) (Kd.R_far (p := ⟨gb483, 0, none⟩) (Kd.R_types HO479.out BK483.out (by decide)) (fun _ hk => hk.2) (.slice Ao9 t471.length co9)) (fun _ hk => hk.2) (.slice Ao11 t474.length co11)) (fun _ hk => hk.2) (.slice Ao12 t477.length co12)) (fun _ h_ => h_.1)))); (case side6 => exact (Kd.R_reads' HO479.out).2.1); (case side7 => refine (Kd.R_reads' (e := 86) (base := w.heap.size) (ok := fun k_ => True) (n := t480.length) (c := co13) ?_).2.2; exact (by (with_reducible repeat (first | apply Kd.R_alloc | apply Kd.R_drewN | apply Kd.R_drew)); exact (Kd.R_mono (Kd.R_far (p := ⟨gb483, 2, none⟩) (Kd.R_far (p := ⟨gb483, 1, none⟩) (Kd.R_far (p := ⟨gb483, 0, none⟩) (Kd.R_types HO482.out BK483.out (by decide)) (fun _ hk => hk.2) (.slice Ao9 t471.length co9)) (fun _ hk => hk.2) (.slice Ao11 t474.length co11)) (fun _ hk => hk.2) (.slice Ao12 t477.length co12)) (fun _ h_ => h_.1)))); (case side8 => exact (Kd.R_reads' HO482.out).2.1); rintro e w14 ⟨rfl, hb⟩; refine ⟨_, rfl, ?_⟩; replace HO473 := Aside0.mk (Kd.R_below (by (with_reducible repeat (first | apply Kd.R_alloc | apply Kd.R_drewN | apply Kd.R_drew)); exact (Kd.R_mono (Kd.R_far (p := ⟨gb483, 2, none⟩) (Kd.R_far (p := ⟨gb483, 1, none⟩) (Kd.R_far (p := ⟨gb483, 0, none⟩) (Kd.R_types HO473.out BK483.out (by decide)) (fun _ hk => hk.2) (.slice Ao9 t471.length co9)) (fun _ hk => hk.2) (.slice Ao11 t474.length co11)) (fun _ hk => hk.2) (.slice Ao12 t477.length co12)) (fun _ h_ => h_.1))) hb); replace HO476 := Aside0.mk (Kd.R_below (by (with_reducible repeat (first | apply Kd.R_alloc | apply Kd.R_drewN | apply Kd.R_drew)); exact (Kd.R_mono (Kd.R_far (p := ⟨gb483, 2, none⟩) (Kd.R_far (p := ⟨gb483, 1, none⟩) (Kd.R_far (p := ⟨gb483, 0, none⟩) (Kd.R_types HO476.out BK483.out (by decide)) (fun _ hk => hk.2) (.slice Ao9 t471.length co9)) (fun _ hk => hk.2) (.slice Ao11 t474.length co11)) (fun _ hk => hk.2) (.slice Ao12 t477.length co12)) (fun _ h_ => h_.1))) hb); replace HO479 := Aside0.mk (Kd.R_below (by (with_reducible repeat (first | apply Kd.R_alloc | apply Kd.R_drewN | apply Kd.R_drew)); exact (Kd.R_mono (Kd.R_far (p := ⟨gb483, 2, none⟩) (Kd.R_far (p := ⟨gb483, 1, none⟩) (Kd.R_far (p := ⟨gb483, 0, none⟩) (Kd.R_types HO479.out BK483.out (by decide)) (fun _ hk => hk.2) (.slice Ao9 t471.length co9)) (fun _ hk => hk.2) (.slice Ao11 t474.length co11)) (fun _ hk => hk.2) (.slice Ao12 t477.length co12)) (fun _ h_ => h_.1))) hb); replace HO482 := Aside0.mk (Kd.R_below (by (with_reducible repeat (first | apply Kd.R_alloc | apply Kd.R_drewN | apply Kd.R_drew)); exact (Kd.R_mono (Kd.R_far (p := ⟨gb483, 2, none⟩) (Kd.R_far (p := ⟨gb483, 1, none⟩) (Kd.R_far (p := ⟨gb483, 0, none⟩) (Kd.R_types HO482.out BK483.out (by decide)) (fun _ hk => hk.2) (.slice Ao9 t471.length co9)) (fun _ hk => hk.2) (.slice Ao11 t474.length co11)) (fun _ hk => hk.2) (.slice Ao12 t477.length co12)) (fun _ h_ => h_.1))) hb); replace BK483 := Aside0.mk (blk_below (g := gb483) (o := .cells #[.slice Ao9 t471.length co9, .slice Ao11 t474.length co11, .slice Ao12 t477.length co12] 30 (0, 0)) (by (with_reducible repeat (first | refine blk_drewN ?_ _ | refine blk_drew ?_ | refine blk_alloc ?_ _)); refine blk_put (cs := #[.slice Ao9 t471.length co9, .slice Ao11 t474.length co11, .slice none 0 0]) ?_ 2 _ rfl; (with_reducible repeat (first | refine blk_drewN ?_ _ | refine blk_drew ?_ | refine blk_alloc ?_ _)); refine blk_put (cs := #[.slice Ao9 t471.length co9, .slice none 0 0, .slice none 0 0]) ?_ 1 _ rfl; (with_reducible repeat (first | refine blk_drewN ?_ _ | refine blk_drew ?_ | refine blk_alloc ?_ _)); refine blk_put (cs := #[.slice none 0 0, .slice none 0 0, .slice none 0 0]) ?_ 0 _ rfl; (with_reducible repeat (first | refine blk_drewN ?_ _ | refine blk_drew ?_ | refine blk_alloc ?_ _)); exact BK483.out) hb); replace HB := bs HB hb; (try clear hb); (try clear hb2); (try clear hk); (try clear hi)))
  (try simp only [Act.put, List.setIfInBounds_toArray, List.set_cons_zero, List.set_cons_succ])
  go_cut [31] (fun v31 wc => ∃ (kq : Nat) (x31_5 : Bool), v31 = .bool x31_5 ∧ Aside0 (laws_FnKinds.j0 kq t480 t484 x31_5 t471 t474 t477 = some true) ∧ Aside0 (kq ≤ k) ∧ Aside0 (Kd.R k86 86 wc w.heap.size (fun _ => True) (.slice Ao13 t480.length co13) t480) ∧ Aside0 (Kd.R Kd.string 9 wc w.heap.size (fun k_ => some k_ ≠ ((.slice Ao11 t474.length co11) : Value).ownBlock) (.slice Ao9 t471.length co9) t471) ∧ Aside0 (Kd.R Kd.string 9 wc w.heap.size (fun k_ => some k_ ≠ ((.slice Ao9 t471.length co9) : Value).ownBlock) (.slice Ao11 t474.length co11) t474) ∧ Aside0 (Kd.R k91 91 wc w.heap.size (fun _ => True) (.slice Ao12 t477.length co12) t477) ∧ Aside0 (wc.heap[gb483]? = some (.cells #[(.slice Ao9 t471.length co9), (.slice Ao11 t474.length co11), (.slice Ao12 t477.length co12)] 30 (0, 0))) ∧ Aside0 (Below w.heap.size w wc))
  case first =>
   have H := HC6.out
   clear HC6
   replace H := Option.bind_eq_some_iff.mp H
   obtain ⟨t485, A150, H⟩ := H
   replace H : (if t484 = t485 then (if t484 = 0 then (laws_FnKinds.j0 k t480 t484 true t471 t474 t477) else (laws_FnKinds.j0 k t480 t484 (decide ((t480.length : Int) > 38)) t471 t474 t477)) else (laws_FnKinds.j0 k t480 t484 true t471 t474 t477)) = some true := H
   have A15 := Aside0.mk A150
   clear A150
   by_cases c16 : t484 = t485
   ·rw [if_pos c16] at H
    have c16b0 : (t484 == t485) = true := beq_iff_eq.mpr c16
    have c16b1 : (t484 != t485) = false := bne_eq_false_iff_eq.mpr c16
    clear c16
    (first | rw [c16b0] | (simp only [i64_w, i32_w]; rw [c16b0]) | skip)
    by_cases c17 : t484 = 0
    ·rw [if_pos c17] at H
     have c17b0 : (t484 == 0) = true := beq_iff_eq.mpr c17
     have c17b1 : (t484 != 0) = false := bne_eq_false_iff_eq.mpr c17
     clear c17
     have H' := Aside0.mk H
     clear H
     have hcz18_0 : w14.cell? ⟨gb483, 0, none⟩ = some (.slice Ao9 t471.length co9) := (blk_cell BK483.out 0).trans rfl
     have hcz18_1 : w14.cell? ⟨gb483, 1, none⟩ = some (.slice Ao11 t474.length co11) := (blk_cell BK483.out 1).trans rfl
     have hcz18_2 : w14.cell? ⟨gb483, 2, none⟩ = some (.slice Ao12 t477.length co12) := (blk_cell BK483.out 2).trans rfl
     have hfz18_0 := blk_frozen BK483.out 0
     have hfz18_1 := blk_frozen BK483.out 1
     have hfz18_2 := blk_frozen BK483.out 2
     go_wp2_with (((with_reducible refine gate_callee (f := 35) rfl ?_); refine goesL_ (some 21) rfl rfl Tryd.func35 (by kernel_rfl) rfl #[.agg #[.slice Ao9 t471.length co9, .slice Ao11 t474.length co11, .slice Ao12 t477.length co12], .slice Ao13 t480.length co13] rfl (by (try simp only [List.map_toArray, List.map_cons, List.map_nil]); first | done | rfl | (simp only [List.length_drop, List.length_take]; rfl)) ?_; (with_reducible refine (spec_ExprOk.calls k _ _ t471 _ _ t474 _ _ t477 _ _ t480 t485 _ ?side1 ?side2 ?side3 ?side4 ?side5 ?side6 ?side7 ?side8 A15.out).mono ?_); (case side1 => repeat (first | exact (Kd.R_reads' HO473.out).2.2 | (with_reducible refine Kd.C_alloc ?_ _) | (with_reducible refine Kd.C_drewN ?_ _) | (with_reducible refine Kd.C_drew ?_))); (case side2 => exact (Kd.R_reads' HO473.out).2.1); (case side3 => repeat (first | exact (Kd.R_reads' HO476.out).2.2 | (with_reducible refine Kd.C_alloc ?_ _) | (with_reducible refine Kd.C_drewN ?_ _) | (with_reducible refine Kd.C_drew ?_))); (case side4 => exact (Kd.R_reads' HO476.out).2.1); (case side5 => repeat (first | exact (Kd.R_reads' HO479.out).2.2 | (with_reducible refine Kd.C_alloc ?_ _) | (with_reducible refine Kd.C_drewN ?_ _) | (with_reducible refine Kd.C_drew ?_))); (case side6 => exact (Kd.R_reads' HO479.out).2.1); (case side7 => repeat (first | exact (Kd.R_reads' HO482.out).2.2 | (with_reducible refine Kd.C_alloc ?_ _) | (with_reducible refine Kd.C_drewN ?_ _) | (with_reducible refine Kd.C_drew ?_))); (case side8 => exact (Kd.R_reads' HO482.out).2.1); rintro e w19 ⟨rfl, hb⟩; refine ⟨_, rfl, ?_⟩; replace HO473 := Aside0.mk (Kd.R_below (rk HO473) hb); replace HO476 := Aside0.mk (Kd.R_below (rk HO476) hb); replace HO479 := Aside0.mk (Kd.R_below (rk HO479) hb); replace HO482 := Aside0.mk (Kd.R_below (rk HO482) hb); replace BK483 := bb BK483 hb; replace HB := bs HB hb; (try clear hb); (try clear hb2); (try clear hk); (try clear hi)))
     go_meet
     case rel => exact ⟨_, (true), (by first | rfl | (simp; done) | (simp [*]; done)), H', ⟨by first | omega | exact Nat.le_refl _⟩, ⟨rk HO482⟩, ⟨rk HO473⟩, ⟨rk HO476⟩, ⟨rk HO479⟩, ⟨bx BK483⟩, ⟨bw HB⟩⟩
    ·rw [if_neg c17] at H
     have c17b0 : (t484 == 0) = false := beq_eq_false_iff_ne.mpr c17
     have c17b1 : (t484 != 0) = true := bne_iff_ne.mpr c17
     have H' := Aside0.mk H
     clear H
     have hcz20_0 : w14.cell? ⟨gb483, 0, none⟩ = some (.slice Ao9 t471.length co9) := (blk_cell BK483.out 0).trans rfl
     have hcz20_1 : w14.cell? ⟨gb483, 1, none⟩ = some (.slice Ao11 t474.length co11) := (blk_cell BK483.out 1).trans rfl
     have hcz20_2 : w14.cell? ⟨gb483, 2, none⟩ = some (.slice Ao12 t477.length co12) := (blk_cell BK483.out 2).trans rfl
     have hfz20_0 := blk_frozen BK483.out 0
     have hfz20_1 := blk_frozen BK483.out 1
     have hfz20_2 := blk_frozen BK483.out 2
     go_wp2_with (((with_reducible refine gate_callee (f := 35) rfl ?_); refine goesL_ (some 21) rfl rfl Tryd.func35 (by kernel_rfl) rfl #[.agg #[.slice Ao9 t471.length co9, .slice Ao11 t474.length co11, .slice Ao12 t477.length co12], .slice Ao13 t480.length co13] rfl (by (try simp only [List.map_toArray, List.map_cons, List.map_nil]); first | done | rfl | (simp only [List.length_drop, List.length_take]; rfl)) ?_; (with_reducible refine (spec_ExprOk.calls k _ _ t471 _ _ t474 _ _ t477 _ _ t480 t485 _ ?side1 ?side2 ?side3 ?side4 ?side5 ?side6 ?side7 ?side8 A15.out).mono ?_); (case side1 => repeat (first | exact (Kd.R_reads' HO473.out).2.2 | (with_reducible refine Kd.C_alloc ?_ _) | (with_reducible refine Kd.C_drewN ?_ _) | (with_reducible refine Kd.C_drew ?_))); (case side2 => exact (Kd.R_reads' HO473.out).2.1); (case side3 => repeat (first | exact (Kd.R_reads' HO476.out).2.2 | (with_reducible refine Kd.C_alloc ?_ _) | (with_reducible refine Kd.C_drewN ?_ _) | (with_reducible refine Kd.C_drew ?_))); (case side4 => exact (Kd.R_reads' HO476.out).2.1); (case side5 => repeat (first | exact (Kd.R_reads' HO479.out).2.2 | (with_reducible refine Kd.C_alloc ?_ _) | (with_reducible refine Kd.C_drewN ?_ _) | (with_reducible refine Kd.C_drew ?_))); (case side6 => exact (Kd.R_reads' HO479.out).2.1); (case side7 => repeat (first | exact (Kd.R_reads' HO482.out).2.2 | (with_reducible refine Kd.C_alloc ?_ _) | (with_reducible refine Kd.C_drewN ?_ _) | (with_reducible refine Kd.C_drew ?_))); (case side8 => exact (Kd.R_reads' HO482.out).2.1); rintro e w21 ⟨rfl, hb⟩; refine ⟨_, rfl, ?_⟩; replace HO473 := Aside0.mk (Kd.R_below (rk HO473) hb); replace HO476 := Aside0.mk (Kd.R_below (rk HO476) hb); replace HO479 := Aside0.mk (Kd.R_below (rk HO479) hb); replace HO482 := Aside0.mk (Kd.R_below (rk HO482) hb); replace BK483 := bb BK483 hb; replace HB := bs HB hb; (try clear hb); (try clear hb2); (try clear hk); (try clear hi)))
     go_meet
     case rel => exact ⟨_, (decide ((t480.length : Int) > 38)), (by first | rfl | (simp; done) | (simp [*]; done)), H', ⟨by first | omega | exact Nat.le_refl _⟩, ⟨rk HO482⟩, ⟨rk HO473⟩, ⟨rk HO476⟩, ⟨rk HO479⟩, ⟨bx BK483⟩, ⟨bw HB⟩⟩
   ·rw [if_neg c16] at H
    have c16b0 : (t484 == t485) = false := beq_eq_false_iff_ne.mpr c16
    have c16b1 : (t484 != t485) = true := bne_iff_ne.mpr c16
    (first | rw [c16b0] | (simp only [i64_w, i32_w]; rw [c16b0]) | skip)
    have H' := Aside0.mk H
    clear H
    have hcz22_0 : w14.cell? ⟨gb483, 0, none⟩ = some (.slice Ao9 t471.length co9) := (blk_cell BK483.out 0).trans rfl
    have hcz22_1 : w14.cell? ⟨gb483, 1, none⟩ = some (.slice Ao11 t474.length co11) := (blk_cell BK483.out 1).trans rfl
    have hcz22_2 : w14.cell? ⟨gb483, 2, none⟩ = some (.slice Ao12 t477.length co12) := (blk_cell BK483.out 2).trans rfl
    have hfz22_0 := blk_frozen BK483.out 0
    have hfz22_1 := blk_frozen BK483.out 1
    have hfz22_2 := blk_frozen BK483.out 2
    go_wp2_with (((with_reducible refine gate_callee (f := 35) rfl ?_); refine goesL_ (some 21) rfl rfl Tryd.func35 (by kernel_rfl) rfl #[.agg #[.slice Ao9 t471.length co9, .slice Ao11 t474.length co11, .slice Ao12 t477.length co12], .slice Ao13 t480.length co13] rfl (by (try simp only [List.map_toArray, List.map_cons, List.map_nil]); first | done | rfl | (simp only [List.length_drop, List.length_take]; rfl)) ?_; (with_reducible refine (spec_ExprOk.calls k _ _ t471 _ _ t474 _ _ t477 _ _ t480 t485 _ ?side1 ?side2 ?side3 ?side4 ?side5 ?side6 ?side7 ?side8 A15.out).mono ?_); (case side1 => repeat (first | exact (Kd.R_reads' HO473.out).2.2 | (with_reducible refine Kd.C_alloc ?_ _) | (with_reducible refine Kd.C_drewN ?_ _) | (with_reducible refine Kd.C_drew ?_))); (case side2 => exact (Kd.R_reads' HO473.out).2.1); (case side3 => repeat (first | exact (Kd.R_reads' HO476.out).2.2 | (with_reducible refine Kd.C_alloc ?_ _) | (with_reducible refine Kd.C_drewN ?_ _) | (with_reducible refine Kd.C_drew ?_))); (case side4 => exact (Kd.R_reads' HO476.out).2.1); (case side5 => repeat (first | exact (Kd.R_reads' HO479.out).2.2 | (with_reducible refine Kd.C_alloc ?_ _) | (with_reducible refine Kd.C_drewN ?_ _) | (with_reducible refine Kd.C_drew ?_))); (case side6 => exact (Kd.R_reads' HO479.out).2.1); (case side7 => repeat (first | exact (Kd.R_reads' HO482.out).2.2 | (with_reducible refine Kd.C_alloc ?_ _) | (with_reducible refine Kd.C_drewN ?_ _) | (with_reducible refine Kd.C_drew ?_))); (case side8 => exact (Kd.R_reads' HO482.out).2.1); rintro e w23 ⟨rfl, hb⟩; refine ⟨_, rfl, ?_⟩; replace HO473 := Aside0.mk (Kd.R_below (rk HO473) hb); replace HO476 := Aside0.mk (Kd.R_below (rk HO476) hb); replace HO479 := Aside0.mk (Kd.R_below (rk HO479) hb); replace HO482 := Aside0.mk (Kd.R_below (rk HO482) hb); replace BK483 := bb BK483 hb; replace HB := bs HB hb; (try clear hb); (try clear hb2); (try clear hk); (try clear hi)))
    go_meet
    case rel => exact ⟨_, (true), (by first | rfl | (simp; done) | (simp [*]; done)), H', ⟨by first | omega | exact Nat.le_refl _⟩, ⟨rk HO482⟩, ⟨rk HO473⟩, ⟨rk HO476⟩, ⟨rk HO479⟩, ⟨bx BK483⟩, ⟨bw HB⟩⟩
  case rest =>
   clear HC6
   try clear c1
   try clear p2
   try clear c3
   try clear c4
   try clear c5
   try clear c11
   try clear c16
   try clear c16b0
   try clear c16b1
   try clear c17
   try clear c17b0
   try clear c17b1
   try clear hcz10_0
   try clear hcz10_1
   try clear hcz10_2
   try clear hcz18_0
   try clear hcz18_1
   try clear hcz18_2
   try clear hcz20_0
   try clear hcz20_1
   try clear hcz20_2
   try clear hcz22_0
   try clear hcz22_1
   try clear hcz22_2
   try clear hfz10_0
   try clear hfz10_1
   try clear hfz10_2
   try clear hfz18_0
   try clear hfz18_1
   try clear hfz18_2
   try clear hfz20_0
   try clear hfz20_1
   try clear hfz20_2
   try clear hfz22_0
   try clear hfz22_1
   try clear hfz22_2
   obtain ⟨kq, x31_5, rfl, HA, HJ5, HO_4, HO_484000, HO_484001, HO_484002, BK483, HB⟩ := hcut
   cases kq with
   | zero => exact absurd HA.out (by simp [laws_FnKinds.j0])
   | succ kj5 =>
    have H := HA.out
    clear HA
    simp only [laws_FnKinds.j0] at H
    by_cases c24 : x31_5 = true
    ·subst c24
     have H1 : ((spec_ExprOk.f kj5 t471 t474 t477 t480).bind fun t486 => (some (t484 == t486))) = some true := by rw [if_pos rfl] at H; first | done | exact H
     clear H
     have H := H1
     clear H1
     replace H := Option.bind_eq_some_iff.mp H
     obtain ⟨t486, A250, H⟩ := H
     replace H : (some (t484 == t486)) = some true := H
     have A25 := Aside0.mk A250
     clear A250
     have HE_ := Aside0.mk (Option.some.inj H)
     clear H
     have hcz26_0 : wc.cell? ⟨gb483, 0, none⟩ = some (.slice Ao9 t471.length co9) := (blk_cell BK483.out 0).trans rfl
     have hcz26_1 : wc.cell? ⟨gb483, 1, none⟩ = some (.slice Ao11 t474.length co11) := (blk_cell BK483.out 1).trans rfl
     have hcz26_2 : wc.cell? ⟨gb483, 2, none⟩ = some (.slice Ao12 t477.length co12) := (blk_cell BK483.out 2).trans rfl
     have hfz26_0 := blk_frozen BK483.out 0
     have hfz26_1 := blk_frozen BK483.out 1
     have hfz26_2 := blk_frozen BK483.out 2
     go_wp2_with (((with_reducible refine gate_callee (f := 35) rfl ?_); refine goesL_ (some 35) rfl rfl Tryd.func35 (by kernel_rfl) rfl #[.agg #[.slice Ao9 t471.length co9, .slice Ao11 t474.length co11, .slice Ao12 t477.length co12], .slice Ao13 t480.length co13] rfl (by (try simp only [List.map_toArray, List.map_cons, List.map_nil]); first | done | rfl | (simp only [List.length_drop, List.length_take]; rfl)) ?_; (with_reducible refine (spec_ExprOk.calls kj5 _ _ t471 _ _ t474 _ _ t477 _ _ t480 t486 _ ?side1 ?side2 ?side3 ?side4 ?side5 ?side6 ?side7 ?side8 A25.out).mono ?_); (case side1 => repeat (first | exact (Kd.R_reads' HO_484000.out).2.2 | (with_reducible refine Kd.C_alloc ?_ _) | (with_reducible refine Kd.C_drewN ?_ _) | (with_reducible refine Kd.C_drew ?_))); (case side2 => exact (Kd.R_reads' HO_484000.out).2.1); (case side3 => repeat (first | exact (Kd.R_reads' HO_484001.out).2.2 | (with_reducible refine Kd.C_alloc ?_ _) | (with_reducible refine Kd.C_drewN ?_ _) | (with_reducible refine Kd.C_drew ?_))); (case side4 => exact (Kd.R_reads' HO_484001.out).2.1); (case side5 => repeat (first | exact (Kd.R_reads' HO_484002.out).2.2 | (with_reducible refine Kd.C_alloc ?_ _) | (with_reducible refine Kd.C_drewN ?_ _) | (with_reducible refine Kd.C_drew ?_))); (case side6 => exact (Kd.R_reads' HO_484002.out).2.1); (case side7 => repeat (first | exact (Kd.R_reads' HO_4.out).2.2 | (with_reducible refine Kd.C_alloc ?_ _) | (with_reducible refine Kd.C_drewN ?_ _) | (with_reducible refine Kd.C_drew ?_))); (case side8 => exact (Kd.R_reads' HO_4.out).2.1); rintro e w27 ⟨rfl, hb⟩; refine ⟨_, rfl, ?_⟩; replace HO_4 := Aside0.mk (Kd.R_below (rk HO_4) hb); replace HO_484000 := Aside0.mk (Kd.R_below (rk HO_484000) hb); replace HO_484001 := Aside0.mk (Kd.R_below (rk HO_484001) hb); replace HO_484002 := Aside0.mk (Kd.R_below (rk HO_484002) hb); replace BK483 := bb BK483 hb; replace HB := bs HB hb; (try clear hb); (try clear hb2); (try clear hk); (try clear hi)))
     go_ret
     exact ⟨by first | rfl | exact congrArg (fun b_ => Ending.returned (Value.bool b_)) HE_.out | (refine absurd HE_.out ?_; simp [*]; done) | (have h_ := HE_.out; clear HE_; simp_all; done) | (have h_ := HE_.out; clear HE_; simp_all; omega) | (simp [errW_none, errW_some] <;> rfl) | (simp [*, errW_none, errW_some] <;> rfl), bw HB⟩
    ·replace c24 := Bool.eq_false_iff.mpr c24
     subst c24
     have H1 : ((some (([] : List (S86)) : List (S86))).bind fun y487 => (if y487.length + t480.length < 8796093022208 then ((some (y487 ++ t480 : List (S86))).bind fun y490 => ((some (([(⟨19, 0⟩ : S86)] : List (S86)) : List (S86))).bind fun y493 => (if y490.length + y493.length < 8796093022208 then ((impl_ExprOk.f t471 t474 t477 (y490 ++ y493)).bind fun t499 => ((some (([] : List (S86)) : List (S86))).bind fun y500 => (if y500.length + t480.length < 8796093022208 then ((some (y500 ++ t480 : List (S86))).bind fun y503 => ((some (([(⟨7, 0⟩ : S86)] : List (S86)) : List (S86))).bind fun y506 => (if y503.length + y506.length < 8796093022208 then ((impl_ExprOk.f t471 t474 t477 (y503 ++ y506)).bind fun t512 => ((impl_DeclOk.f t471 t474 t477).bind fun t513 => (if t513 = true then (if t484 = 1 then (if t499 = 0 then (if t512 = 1 then (some true) else (if t484 = 2 then (if t499 = 2 then (some (t512 == 0)) else (some false)) else (some false))) else (if t484 = 2 then (if t499 = 2 then (some (t512 == 0)) else (some false)) else (some false))) else (if t484 = 2 then (if t499 = 2 then (some (t512 == 0)) else (some false)) else (some false))) else (some false)))) else (none)))) else (none)))) else (none)))) else (none))) = some true := by rw [if_neg (show ¬ (false = true) by decide)] at H; first | done | exact H
     clear H
     have H := H1
     clear H1
     obtain ⟨y487, hy487⟩ : ∃ y_ : List (S86), y_ = (([] : List (S86))) := ⟨_, rfl⟩
     replace H : (if y487.length + t480.length < 8796093022208 then ((some (y487 ++ t480 : List (S86))).bind fun y490 => ((some (([(⟨19, 0⟩ : S86)] : List (S86)) : List (S86))).bind fun y493 => (if y490.length + y493.length < 8796093022208 then ((impl_ExprOk.f t471 t474 t477 (y490 ++ y493)).bind fun t499 => ((some (([] : List (S86)) : List (S86))).bind fun y500 => (if y500.length + t480.length < 8796093022208 then ((some (y500 ++ t480 : List (S86))).bind fun y503 => ((some (([(⟨7, 0⟩ : S86)] : List (S86)) : List (S86))).bind fun y506 => (if y503.length + y506.length < 8796093022208 then ((impl_ExprOk.f t471 t474 t477 (y503 ++ y506)).bind fun t512 => ((impl_DeclOk.f t471 t474 t477).bind fun t513 => (if t513 = true then (if t484 = 1 then (if t499 = 0 then (if t512 = 1 then (some true) else (if t484 = 2 then (if t499 = 2 then (some (t512 == 0)) else (some false)) else (some false))) else (if t484 = 2 then (if t499 = 2 then (some (t512 == 0)) else (some false)) else (some false))) else (if t484 = 2 then (if t499 = 2 then (some (t512 == 0)) else (some false)) else (some false))) else (some false)))) else (none)))) else (none)))) else (none)))) else (none)) = some true := by first | (rw [hy487]; with_reducible exact H) | (have H2_ := (Option.bind_some _ _).symm.trans H; rw [hy487]; with_reducible exact H2_) | (have H2_ := (Option.bind_some _ _).symm.trans H; with_reducible exact H2_) | with_reducible exact H | (rw [hy487]; exact H) | exact H
     have Ny487 := Aside0.mk hy487
     clear hy487
     by_cases c28 : y487.length + t480.length < 8796093022208
     ·rw [if_pos c28] at H
      have LMc28 := Aside0.mk c28
      clear c28
      obtain ⟨y490, hy490⟩ : ∃ y_ : List (S86), y_ = (y487 ++ t480) := ⟨_, rfl⟩
      replace H : ((some (([(⟨19, 0⟩ : S86)] : List (S86)) : List (S86))).bind fun y493 => (if y490.length + y493.length < 8796093022208 then ((impl_ExprOk.f t471 t474 t477 (y490 ++ y493)).bind fun t499 => ((some (([] : List (S86)) : List (S86))).bind fun y500 => (if y500.length + t480.length < 8796093022208 then ((some (y500 ++ t480 : List (S86))).bind fun y503 => ((some (([(⟨7, 0⟩ : S86)] : List (S86)) : List (S86))).bind fun y506 => (if y503.length + y506.length < 8796093022208 then ((impl_ExprOk.f t471 t474 t477 (y503 ++ y506)).bind fun t512 => ((impl_DeclOk.f t471 t474 t477).bind fun t513 => (if t513 = true then (if t484 = 1 then (if t499 = 0 then (if t512 = 1 then (some true) else (if t484 = 2 then (if t499 = 2 then (some (t512 == 0)) else (some false)) else (some false))) else (if t484 = 2 then (if t499 = 2 then (some (t512 == 0)) else (some false)) else (some false))) else (if t484 = 2 then (if t499 = 2 then (some (t512 == 0)) else (some false)) else (some false))) else (some false)))) else (none)))) else (none)))) else (none))) = some true := by first | (rw [hy490]; with_reducible exact H) | (have H2_ := (Option.bind_some _ _).symm.trans H; rw [hy490]; with_reducible exact H2_) | (have H2_ := (Option.bind_some _ _).symm.trans H; with_reducible exact H2_) | with_reducible exact H | (rw [hy490]; exact H) | exact H
      have Ny490 := Aside0.mk hy490
      clear hy490
      obtain ⟨y493, hy493⟩ : ∃ y_ : List (S86), y_ = (([(⟨19, 0⟩ : S86)] : List (S86))) := ⟨_, rfl⟩
      replace H : (if y490.length + y493.length < 8796093022208 then ((impl_ExprOk.f t471 t474 t477 (y490 ++ y493)).bind fun t499 => ((some (([] : List (S86)) : List (S86))).bind fun y500 => (if y500.length + t480.length < 8796093022208 then ((some (y500 ++ t480 : List (S86))).bind fun y503 => ((some (([(⟨7, 0⟩ : S86)] : List (S86)) : List (S86))).bind fun y506 => (if y503.length + y506.length < 8796093022208 then ((impl_ExprOk.f t471 t474 t477 (y503 ++ y506)).bind fun t512 => ((impl_DeclOk.f t471 t474 t477).bind fun t513 => (if t513 = true then (if t484 = 1 then (if t499 = 0 then (if t512 = 1 then (some true) else (if t484 = 2 then (if t499 = 2 then (some (t512 == 0)) else (some false)) else (some false))) else (if t484 = 2 then (if t499 = 2 then (some (t512 == 0)) else (some false)) else (some false))) else (if t484 = 2 then (if t499 = 2 then (some (t512 == 0)) else (some false)) else (some false))) else (some false)))) else (none)))) else (none)))) else (none)) = some true := by first | (rw [hy493]; with_reducible exact H) | (have H2_ := (Option.bind_some _ _).symm.trans H; rw [hy493]; with_reducible exact H2_) | (have H2_ := (Option.bind_some _ _).symm.trans H; with_reducible exact H2_) | with_reducible exact H | (rw [hy493]; exact H) | exact H
      have Ny493 := Aside0.mk hy493
      clear hy493
      by_cases c29 : y490.length + y493.length < 8796093022208
      ·rw [if_pos c29] at H
       have LMc29 := Aside0.mk c29
       clear c29
       obtain ⟨y496, hy496⟩ : ∃ y_ : List (S86), y_ = (y490 ++ y493) := ⟨_, rfl⟩
       replace H : ((impl_ExprOk.f t471 t474 t477 y496).bind fun t499 => ((some (([] : List (S86)) : List (S86))).bind fun y500 => (if y500.length + t480.length < 8796093022208 then ((some (y500 ++ t480 : List (S86))).bind fun y503 => ((some (([(⟨7, 0⟩ : S86)] : List (S86)) : List (S86))).bind fun y506 => (if y503.length + y506.length < 8796093022208 then ((impl_ExprOk.f t471 t474 t477 (y503 ++ y506)).bind fun t512 => ((impl_DeclOk.f t471 t474 t477).bind fun t513 => (if t513 = true then (if t484 = 1 then (if t499 = 0 then (if t512 = 1 then (some true) else (if t484 = 2 then (if t499 = 2 then (some (t512 == 0)) else (some false)) else (some false))) else (if t484 = 2 then (if t499 = 2 then (some (t512 == 0)) else (some false)) else (some false))) else (if t484 = 2 then (if t499 = 2 then (some (t512 == 0)) else (some false)) else (some false))) else (some false)))) else (none)))) else (none)))) = some true := by first | (rw [hy496]; with_reducible exact H) | (have H2_ := (Option.bind_some _ _).symm.trans H; rw [hy496]; with_reducible exact H2_) | (have H2_ := (Option.bind_some _ _).symm.trans H; with_reducible exact H2_) | with_reducible exact H | (rw [hy496]; exact H) | exact H
       have Ny496 := Aside0.mk hy496
       clear hy496
       replace H := Option.bind_eq_some_iff.mp H
       obtain ⟨t499, A300, H⟩ := H
       replace H : ((some (([] : List (S86)) : List (S86))).bind fun y500 => (if y500.length + t480.length < 8796093022208 then ((some (y500 ++ t480 : List (S86))).bind fun y503 => ((some (([(⟨7, 0⟩ : S86)] : List (S86)) : List (S86))).bind fun y506 => (if y503.length + y506.length < 8796093022208 then ((impl_ExprOk.f t471 t474 t477 (y503 ++ y506)).bind fun t512 => ((impl_DeclOk.f t471 t474 t477).bind fun t513 => (if t513 = true then (if t484 = 1 then (if t499 = 0 then (if t512 = 1 then (some true) else (if t484 = 2 then (if t499 = 2 then (some (t512 == 0)) else (some false)) else (some false))) else (if t484 = 2 then (if t499 = 2 then (some (t512 == 0)) else (some false)) else (some false))) else (if t484 = 2 then (if t499 = 2 then (some (t512 == 0)) else (some false)) else (some false))) else (some false)))) else (none)))) else (none))) = some true := H
       have A30 := Aside0.mk A300
       clear A300
       obtain ⟨y500, hy500⟩ : ∃ y_ : List (S86), y_ = (([] : List (S86))) := ⟨_, rfl⟩
       replace H : (if y500.length + t480.length < 8796093022208 then ((some (y500 ++ t480 : List (S86))).bind fun y503 => ((some (([(⟨7, 0⟩ : S86)] : List (S86)) : List (S86))).bind fun y506 => (if y503.length + y506.length < 8796093022208 then ((impl_ExprOk.f t471 t474 t477 (y503 ++ y506)).bind fun t512 => ((impl_DeclOk.f t471 t474 t477).bind fun t513 => (if t513 = true then (if t484 = 1 then (if t499 = 0 then (if t512 = 1 then (some true) else (if t484 = 2 then (if t499 = 2 then (some (t512 == 0)) else (some false)) else (some false))) else (if t484 = 2 then (if t499 = 2 then (some (t512 == 0)) else (some false)) else (some false))) else (if t484 = 2 then (if t499 = 2 then (some (t512 == 0)) else (some false)) else (some false))) else (some false)))) else (none)))) else (none)) = some true := by first | (rw [hy500]; with_reducible exact H) | (have H2_ := (Option.bind_some _ _).symm.trans H; rw [hy500]; with_reducible exact H2_) | (have H2_ := (Option.bind_some _ _).symm.trans H; with_reducible exact H2_) | with_reducible exact H | (rw [hy500]; exact H) | exact H
       have Ny500 := Aside0.mk hy500
       clear hy500
       by_cases c31 : y500.length + t480.length < 8796093022208
       ·rw [if_pos c31] at H
        have LMc31 := Aside0.mk c31
        clear c31
        obtain ⟨y503, hy503⟩ : ∃ y_ : List (S86), y_ = (y500 ++ t480) := ⟨_, rfl⟩
        replace H : ((some (([(⟨7, 0⟩ : S86)] : List (S86)) : List (S86))).bind fun y506 => (if y503.length + y506.length < 8796093022208 then ((impl_ExprOk.f t471 t474 t477 (y503 ++ y506)).bind fun t512 => ((impl_DeclOk.f t471 t474 t477).bind fun t513 => (if t513 = true then (if t484 = 1 then (if t499 = 0 then (if t512 = 1 then (some true) else (if t484 = 2 then (if t499 = 2 then (some (t512 == 0)) else (some false)) else (some false))) else (if t484 = 2 then (if t499 = 2 then (some (t512 == 0)) else (some false)) else (some false))) else (if t484 = 2 then (if t499 = 2 then (some (t512 == 0)) else (some false)) else (some false))) else (some false)))) else (none))) = some true := by first | (rw [hy503]; with_reducible exact H) | (have H2_ := (Option.bind_some _ _).symm.trans H; rw [hy503]; with_reducible exact H2_) | (have H2_ := (Option.bind_some _ _).symm.trans H; with_reducible exact H2_) | with_reducible exact H | (rw [hy503]; exact H) | exact H
        have Ny503 := Aside0.mk hy503
        clear hy503
        obtain ⟨y506, hy506⟩ : ∃ y_ : List (S86), y_ = (([(⟨7, 0⟩ : S86)] : List (S86))) := ⟨_, rfl⟩
        replace H : (if y503.length + y506.length < 8796093022208 then ((impl_ExprOk.f t471 t474 t477 (y503 ++ y506)).bind fun t512 => ((impl_DeclOk.f t471 t474 t477).bind fun t513 => (if t513 = true then (if t484 = 1 then (if t499 = 0 then (if t512 = 1 then (some true) else (if t484 = 2 then (if t499 = 2 then (some (t512 == 0)) else (some false)) else (some false))) else (if t484 = 2 then (if t499 = 2 then (some (t512 == 0)) else (some false)) else (some false))) else (if t484 = 2 then (if t499 = 2 then (some (t512 == 0)) else (some false)) else (some false))) else (some false)))) else (none)) = some true := by first | (rw [hy506]; with_reducible exact H) | (have H2_ := (Option.bind_some _ _).symm.trans H; rw [hy506]; with_reducible exact H2_) | (have H2_ := (Option.bind_some _ _).symm.trans H; with_reducible exact H2_) | with_reducible exact H | (rw [hy506]; exact H) | exact H
        have Ny506 := Aside0.mk hy506
        clear hy506
        by_cases c32 : y503.length + y506.length < 8796093022208
        ·rw [if_pos c32] at H
         have LMc32 := Aside0.mk c32
         clear c32
         obtain ⟨y509, hy509⟩ : ∃ y_ : List (S86), y_ = (y503 ++ y506) := ⟨_, rfl⟩
         replace H : ((impl_ExprOk.f t471 t474 t477 y509).bind fun t512 => ((impl_DeclOk.f t471 t474 t477).bind fun t513 => (if t513 = true then (if t484 = 1 then (if t499 = 0 then (if t512 = 1 then (some true) else (if t484 = 2 then (if t499 = 2 then (some (t512 == 0)) else (some false)) else (some false))) else (if t484 = 2 then (if t499 = 2 then (some (t512 == 0)) else (some false)) else (some false))) else (if t484 = 2 then (if t499 = 2 then (some (t512 == 0)) else (some false)) else (some false))) else (some false)))) = some true := by first | (rw [hy509]; with_reducible exact H) | (have H2_ := (Option.bind_some _ _).symm.trans H; rw [hy509]; with_reducible exact H2_) | (have H2_ := (Option.bind_some _ _).symm.trans H; with_reducible exact H2_) | with_reducible exact H | (rw [hy509]; exact H) | exact H
         have Ny509 := Aside0.mk hy509
         clear hy509
         replace H := Option.bind_eq_some_iff.mp H
         obtain ⟨t512, A330, H⟩ := H
         replace H : ((impl_DeclOk.f t471 t474 t477).bind fun t513 => (if t513 = true then (if t484 = 1 then (if t499 = 0 then (if t512 = 1 then (some true) else (if t484 = 2 then (if t499 = 2 then (some (t512 == 0)) else (some false)) else (some false))) else (if t484 = 2 then (if t499 = 2 then (some (t512 == 0)) else (some false)) else (some false))) else (if t484 = 2 then (if t499 = 2 then (some (t512 == 0)) else (some false)) else (some false))) else (some false))) = some true := H
         have A33 := Aside0.mk A330
         clear A330
         replace H := Option.bind_eq_some_iff.mp H
         obtain ⟨t513, A340, H⟩ := H
         replace H : (if t513 = true then (if t484 = 1 then (if t499 = 0 then (if t512 = 1 then (some true) else (if t484 = 2 then (if t499 = 2 then (some (t512 == 0)) else (some false)) else (some false))) else (if t484 = 2 then (if t499 = 2 then (some (t512 == 0)) else (some false)) else (some false))) else (if t484 = 2 then (if t499 = 2 then (some (t512 == 0)) else (some false)) else (some false))) else (some false)) = some true := H
         have A34 := Aside0.mk A340
         clear A340
         have HH_ := Aside0.mk H
         clear H
         try go_wp2
         have n0_ := Aside0.mk (Kd.R_drew HO_4.out)
         have n1_ := Aside0.mk (Kd.R_drew HO_484000.out)
         have n2_ := Aside0.mk (Kd.R_drew HO_484001.out)
         have n3_ := Aside0.mk (Kd.R_drew HO_484002.out)
         have n4_ := Aside0.mk (blk_drew BK483.out)
         have n5_ := Aside0.mk (below_drew1 HB.out)
         clear HO_4
         clear HO_484000
         clear HO_484001
         clear HO_484002
         clear BK483
         clear HB
         have HO_4 := n0_
         have HO_484000 := n1_
         have HO_484001 := n2_
         have HO_484002 := n3_
         have BK483 := n4_
         have HB := n5_
         clear n0_ n1_ n2_ n3_ n4_ n5_
         refine start_ (n := 9) (S := fun w' => w'.cell? ⟨gb483, 0, none⟩ = some (.slice Ao9 t471.length co9) ∧ w'.cell? ⟨gb483, 1, none⟩ = some (.slice Ao11 t474.length co11) ∧ w'.cell? ⟨gb483, 2, none⟩ = some (.slice Ao12 t477.length co12)) (ds := []) #[false, false, false, false, false, false, false, false, false] (by kernel_rfl) rfl rfl ⟨(blk_cell BK483.out 0).trans rfl, (blk_cell BK483.out 1).trans rfl, (blk_cell BK483.out 2).trans rfl⟩ (fun hHeld => ?_); refine with_tabW laws_FnKinds.tab7 laws_FnKinds.bits7 (fun HT_ HW_ => ?_)
         generalize wc.drew = w39 at HO_4 HO_484000 HO_484001 HO_484002 BK483 HB hHeld ⊢
         refine pure_ (i := 2) (N := some 39) (v := ?_) (a' := ?_) #[false, false, true, false, false, false, false, false, false] rfl rfl (any_of HT_.out (by kernel_rfl)) (fun _ _ _ h => h) (Or.inl ⟨by rfl, ?_⟩) ?_ ?_
         rotate_left
         ·intro w'
          go_simp
          with_reducible rfl
         rotate_left
         ·simp only [Act.put, List.setIfInBounds_toArray, List.set_cons_zero, List.set_cons_succ, i64_w, i32_w]
          rfl
         refine pure_ (i := 4) (N := some 41) (v := ?_) (a' := ?_) #[false, false, true, false, true, false, false, false, false] rfl rfl (any_of HT_.out (by kernel_rfl)) (fun _ _ _ h => h) (Or.inl ⟨by rfl, ?_⟩) ?_ ?_
         rotate_left
         ·intro w'
          go_simp
          with_reducible rfl
         rotate_left
         ·simp only [Act.put, List.setIfInBounds_toArray, List.set_cons_zero, List.set_cons_succ, i64_w, i32_w]
          rfl
         refine take_ (i := 0) (N := some 37) (v := ?_) (a' := ?_) #[true, false, true, false, true, false, false, false, false] rfl rfl (take_ofW HT_.out HW_.out (by kernel_rfl)) (fun _ _ _ h => h) (Or.inl ⟨by rfl, ?_⟩) hHeld ?_ ?_
         rotate_left
         ·rintro w' ⟨s0, s1, s2⟩
          go_simp
          with_reducible rfl
         rotate_left
         ·simp only [Act.put, List.setIfInBounds_toArray, List.set_cons_zero, List.set_cons_succ, i64_w, i32_w]
          rfl
         refine join_ (σ := Value × Value × Value) 3 #[true, true, true, true, true, true, false, false, false] (fun s_ => [(38, s_.1), (40, s_.2.1), (42, s_.2.2)]) (fun s_ w' => (w'.cell? ⟨gb483, 0, none⟩ = some (.slice Ao9 t471.length co9) ∧ w'.cell? ⟨gb483, 1, none⟩ = some (.slice Ao11 t474.length co11) ∧ w'.cell? ⟨gb483, 2, none⟩ = some (.slice Ao12 t477.length co12)) ∧ (Kd.R k86 86 w' w.heap.size (fun k_ => some k_ ≠ (s_.2.2 : Value).ownBlock ∧ some k_ ≠ (.slice Ao13 t480.length co13 : Value).ownBlock) s_.2.1 y490) ∧ (Kd.R k86 86 w' w.heap.size (fun k_ => some k_ ≠ (s_.2.1 : Value).ownBlock ∧ some k_ ≠ (.slice Ao13 t480.length co13 : Value).ownBlock) s_.2.2 y493) ∧ (Kd.R k86 86 w' w.heap.size (fun k_ => some k_ ≠ (s_.2.1 : Value).ownBlock ∧ some k_ ≠ (s_.2.2 : Value).ownBlock) (.slice Ao13 t480.length co13) t480) ∧ (Kd.R Kd.string 9 w' w.heap.size (fun k_ => some k_ ≠ (.slice Ao11 t474.length co11 : Value).ownBlock) (.slice Ao9 t471.length co9) t471) ∧ (Kd.R Kd.string 9 w' w.heap.size (fun k_ => some k_ ≠ (.slice Ao9 t471.length co9 : Value).ownBlock) (.slice Ao11 t474.length co11) t474) ∧ (Kd.R k91 91 w' w.heap.size (fun _ => True) (.slice Ao12 t477.length co12) t477) ∧ (w'.heap[gb483]? = some (.cells #[.slice Ao9 t471.length co9, .slice Ao11 t474.length co11, .slice Ao12 t477.length co12] 30 (0, 0))) ∧ (Below w.heap.size w w')) ?_ ?_
         rotate_left
         ·intro hCont
          refine two_ (i := 1) (j := 5) (Ni := some 38) (Nj := some 42) #[true, true, true, false, true, false, false, false, false] #[true, false, true, false, true, true, false, false, false] rfl rfl rfl rfl (two_of HT_.out (by kernel_rfl)) (by decide) (by decide) (fun K hK => ?_) (fun K hK => ?_)
          ·skip
           refine Kd.R_lit_step k86 _ 86 ?hg (N := 38) ?hd (xs := ([] : List (S86))) (inner := []) (ok := fun _ => True) (okp := fun _ => True) ?hr ?hp (fun _ hk => hk) trivial (Below.refl _ _) (Nat.le_refl _) (by simp) ?_; (case hd => rfl); (case hg => rfl); (case hr => first | (go_simp; done) | (go_simp; rfl)); (case hp => exact (Reps.none _ _))
           intro v488 w40 ho41 hb hg_ hnew_
           clear hg_ hnew_
           (first | rw [← Ny487.out] at ho41 | (simp only [Int.reduceToNat] at ho41; rw [← Ny487.out] at ho41))
           have n0_ := Aside0.mk (Kd.R_elder' (rk HO_4) (Kd.R_base ho41) hb)
           have n1_ := Aside0.mk (Kd.R_below (rk HO_484000) hb)
           have n2_ := Aside0.mk (Kd.R_below (rk HO_484001) hb)
           have n3_ := Aside0.mk (Kd.R_below (rk HO_484002) hb)
           have n4_ := Aside0.mk (Kd.R_lower (Kd.R_new' ho41 (Kd.R_lt (rk HO_4))) (below_size (bw HB)))
           have n5_ := bb BK483 hb
           have n6_ := bs HB hb
           clear HO_4
           clear HO_484000
           clear HO_484001
           clear HO_484002
           clear BK483
           clear HB
           have HO_4 := n0_
           have HO_484000 := n1_
           have HO_484001 := n2_
           have HO_484002 := n3_
           have HO489 := n4_
           have BK483 := n5_
           have HB := n6_
           clear n0_ n1_ n2_ n3_ n4_ n5_ n6_
           clear hb ho41
           refine hK.out _ _ ⟨(blk_cell BK483.out 0).trans rfl, (blk_cell BK483.out 1).trans rfl, (blk_cell BK483.out 2).trans rfl⟩ (fun hHeld => ?_)
           clear hK K
           refine norm_ (a' := ?_) ?_ ?_
           rotate_left
           ·show Act.put _ (some 38) _ = _
            simp only [Act.put, List.setIfInBounds_toArray, List.set_cons_zero, List.set_cons_succ, i64_w, i32_w]
            rfl
           refine two_ (i := 3) (j := 5) (Ni := some 40) (Nj := some 42) #[true, true, true, true, true, false, false, false, false] #[true, true, true, false, true, true, false, false, false] rfl rfl rfl rfl (two_of HT_.out (by kernel_rfl)) (by decide) (by decide) (fun K hK => ?_) (fun K hK => ?_)
           ·skip
            refine Kd.R_append_rows_step k86 (w0 := w) w.heap.size (by rfl) (.tmp 38) (.tmp 39) 68 86 (.agg #[(.int .i64 0), (.int .i64 0)]) 16 rfl Tryd.underlying68 info86 rfl (by decide) (by omega) v488 y487 t480 _ _ _ (fun k_ => some k_ ≠ (.slice Ao13 t480.length co13 : Value).ownBlock) (fun _ => False) rfl rfl ?aO ?aR (fun _ _ h => h) (fun _ h => h.elim) ?aF ?aB ?aS ?aL ?_
            (case aR => repeat (first | exact (Kd.R_reads' HO_4.out).2.2 | (with_reducible refine Kd.C_alloc ?_ _) | (with_reducible refine Kd.C_drewN ?_ _) | (with_reducible refine Kd.C_drew ?_)))
            (case aB => exact (bw HB))
            (case aF => exact (fun k_ hk => Kd.fresh' (Kd.R_lt (rk HO_4)) k_ hk))
            (case aO => exact (by (with_reducible repeat (first | apply Kd.R_alloc | apply Kd.R_drewN | apply Kd.R_drew)); exact Kd.R_mono HO489.out (fun _ hk => hk.2)))
            (case aS => exact (below_size (bw HB)))
            (case aL => have := LMc28.out; omega)
            intro v491 w42 ho hb hg hat
            rw [← Ny490.out] at ho
            have n0_ := Aside0.mk (Kd.R_after (ok := (fun _ => True)) (rk HO_4) hg hat)
            have n1_ := Aside0.mk (Kd.R_over' (rk HO_484000) (Kd.R_typed (rk HO489)) (by decide) hg)
            have n2_ := Aside0.mk (Kd.R_over' (rk HO_484001) (Kd.R_typed (rk HO489)) (by decide) hg)
            have n3_ := Aside0.mk (Kd.R_over' (rk HO_484002) (Kd.R_typed (rk HO489)) (by decide) hg)
            have n4_ := Aside0.mk (blk_grown (bk BK483) hg (Kd.R_ne HO489.out BK483.out (by decide)))
            have n5_ := Aside0.mk (hb)
            have n6_ := Aside0.mk (ho)
            clear HO_4
            clear HO_484000
            clear HO_484001
            clear HO_484002
            clear BK483
            clear HB
            clear HO489
            have HO_4 := n0_
            have HO_484000 := n1_
            have HO_484001 := n2_
            have HO_484002 := n3_
            have BK483 := n4_
            have HB := n5_
            have HO492 := n6_
            clear n0_ n1_ n2_ n3_ n4_ n5_ n6_
            clear ho hb hg hat
            refine hK.out _ _ ⟨(blk_cell BK483.out 0).trans rfl, (blk_cell BK483.out 1).trans rfl, (blk_cell BK483.out 2).trans rfl⟩ (fun hHeld => ?_)
            clear hK K
            refine norm_ (a' := ?_) ?_ ?_
            rotate_left
            ·show Act.put _ (some 40) _ = _
             simp only [Act.put, List.setIfInBounds_toArray, List.set_cons_zero, List.set_cons_succ, i64_w, i32_w]
             rfl
            refine one_ (i := 5) (N := some 42) #[true, true, true, true, true, true, false, false, false] rfl rfl (one_of HT_.out (by kernel_rfl)) (by decide) (fun K hK => ?_)
            refine Kd.R_lit_step k86 _ 86 ?hg (N := 42) ?hd (xs := ([(⟨19, 0⟩ : S86)] : List (S86))) (inner := [.int .i64 19, .int .i64 0]) (ok := fun _ => True) (okp := fun _ => True) ?hr ?hp (fun _ hk => hk) trivial (Below.refl _ _) (Nat.le_refl _) (by simp) ?_; (case hd => rfl); (case hg => rfl); (case hr => first | (go_simp; done) | (go_simp; rfl)); (case hp => exact (Reps.c2 (show Kd.M k86 _ _ _ (⟨19, 0⟩ : S86) [.int .i64 19, .int .i64 0] from (k86_mkM _ _ _ (⟨19, 0⟩ : S86) )) (Reps.none _ _)))
            intro v494 w43 ho44 hb hg_ hnew_
            clear hg_ hnew_
            (first | rw [← Ny493.out] at ho44 | (simp only [Int.reduceToNat] at ho44; rw [← Ny493.out] at ho44))
            have n0_ := Aside0.mk (Kd.R_elder' (rk HO_4) (Kd.R_base ho44) hb)
            have n1_ := Aside0.mk (Kd.R_below (rk HO_484000) hb)
            have n2_ := Aside0.mk (Kd.R_below (rk HO_484001) hb)
            have n3_ := Aside0.mk (Kd.R_below (rk HO_484002) hb)
            have n4_ := Aside0.mk (Kd.R_elder' (rk HO492) (Kd.R_base ho44) hb)
            have n5_ := Aside0.mk (Kd.R_lower (Kd.R_new' (Kd.R_new' ho44 (Kd.R_lt (rk HO_4))) (Kd.R_lt (rk HO492))) (below_size (bw HB)))
            have n6_ := bb BK483 hb
            have n7_ := bs HB hb
            clear HO_4
            clear HO_484000
            clear HO_484001
            clear HO_484002
            clear HO492
            clear BK483
            clear HB
            have HO_4 := n0_
            have HO_484000 := n1_
            have HO_484001 := n2_
            have HO_484002 := n3_
            have HO492 := n4_
            have HO495 := n5_
            have BK483 := n6_
            have HB := n7_
            clear n0_ n1_ n2_ n3_ n4_ n5_ n6_ n7_
            clear hb ho44
            refine hK.out _ _ ⟨(blk_cell BK483.out 0).trans rfl, (blk_cell BK483.out 1).trans rfl, (blk_cell BK483.out 2).trans rfl⟩ (fun hHeld => ?_)
            clear hK K
            refine norm_ (a' := ?_) ?_ ?_
            rotate_left
            ·show Act.put _ (some 42) _ = _
             simp only [Act.put, List.setIfInBounds_toArray, List.set_cons_zero, List.set_cons_succ, i64_w, i32_w]
             rfl
            exact norm_ (by simp only [putAll, Act.put, List.setIfInBounds_toArray, List.set_cons_zero, List.set_cons_succ]) (hCont (v488, v491, v494) _ ⟨hHeld, (by (with_reducible repeat (first | apply Kd.R_alloc | apply Kd.R_drewN | apply Kd.R_drew)); exact Kd.R_mono HO492.out (fun _ hk => ⟨hk.2, hk.1⟩)), (by (with_reducible repeat (first | apply Kd.R_alloc | apply Kd.R_drewN | apply Kd.R_drew)); exact Kd.R_mono HO495.out (fun _ hk => ⟨hk.2, hk.1.2⟩)), (by (with_reducible repeat (first | apply Kd.R_alloc | apply Kd.R_drewN | apply Kd.R_drew)); exact Kd.R_mono HO_4.out (fun _ hk => ⟨hk.1.2, hk.2⟩)), (rk HO_484000), (rk HO_484001), (rk HO_484002), (bk BK483), (bw HB)⟩)
           ·skip
            refine Kd.R_lit_step k86 _ 86 ?hg (N := 42) ?hd (xs := ([(⟨19, 0⟩ : S86)] : List (S86))) (inner := [.int .i64 19, .int .i64 0]) (ok := fun _ => True) (okp := fun _ => True) ?hr ?hp (fun _ hk => hk) trivial (Below.refl _ _) (Nat.le_refl _) (by simp) ?_; (case hd => rfl); (case hg => rfl); (case hr => first | (go_simp; done) | (go_simp; rfl)); (case hp => exact (Reps.c2 (show Kd.M k86 _ _ _ (⟨19, 0⟩ : S86) [.int .i64 19, .int .i64 0] from (k86_mkM _ _ _ (⟨19, 0⟩ : S86) )) (Reps.none _ _)))
            intro v494 w42 ho43 hb hg_ hnew_
            clear hg_ hnew_
            (first | rw [← Ny493.out] at ho43 | (simp only [Int.reduceToNat] at ho43; rw [← Ny493.out] at ho43))
            have n0_ := Aside0.mk (Kd.R_elder' (rk HO_4) (Kd.R_base ho43) hb)
            have n1_ := Aside0.mk (Kd.R_below (rk HO_484000) hb)
            have n2_ := Aside0.mk (Kd.R_below (rk HO_484001) hb)
            have n3_ := Aside0.mk (Kd.R_below (rk HO_484002) hb)
            have n4_ := Aside0.mk (Kd.R_elder' (rk HO489) (Kd.R_base ho43) hb)
            have n5_ := Aside0.mk (Kd.R_lower (Kd.R_new' (Kd.R_new' ho43 (Kd.R_lt (rk HO_4))) (Kd.R_lt (rk HO489))) (below_size (bw HB)))
            have n6_ := bb BK483 hb
            have n7_ := bs HB hb
            clear HO_4
            clear HO_484000
            clear HO_484001
            clear HO_484002
            clear HO489
            clear BK483
            clear HB
            have HO_4 := n0_
            have HO_484000 := n1_
            have HO_484001 := n2_
            have HO_484002 := n3_
            have HO489 := n4_
            have HO495 := n5_
            have BK483 := n6_
            have HB := n7_
            clear n0_ n1_ n2_ n3_ n4_ n5_ n6_ n7_
            clear hb ho43
            refine hK.out _ _ ⟨(blk_cell BK483.out 0).trans rfl, (blk_cell BK483.out 1).trans rfl, (blk_cell BK483.out 2).trans rfl⟩ (fun hHeld => ?_)
            clear hK K
            refine norm_ (a' := ?_) ?_ ?_
            rotate_left
            ·show Act.put _ (some 42) _ = _
             simp only [Act.put, List.setIfInBounds_toArray, List.set_cons_zero, List.set_cons_succ, i64_w, i32_w]
             rfl
            refine one_ (i := 3) (N := some 40) #[true, true, true, true, true, true, false, false, false] rfl rfl (one_of HT_.out (by kernel_rfl)) (by decide) (fun K hK => ?_)
            refine Kd.R_append_rows_step k86 (w0 := w) w.heap.size (by rfl) (.tmp 38) (.tmp 39) 68 86 (.agg #[(.int .i64 0), (.int .i64 0)]) 16 rfl Tryd.underlying68 info86 rfl (by decide) (by omega) v488 y487 t480 _ _ _ (fun k_ => some k_ ≠ (.slice Ao13 t480.length co13 : Value).ownBlock ∧ some k_ ≠ (v494 : Value).ownBlock) (fun _ => False) rfl rfl ?aO ?aR (fun _ _ h => h) (fun _ h => h.elim) ?aF ?aB ?aS ?aL ?_
            (case aR => repeat (first | exact (Kd.R_reads' HO_4.out).2.2 | (with_reducible refine Kd.C_alloc ?_ _) | (with_reducible refine Kd.C_drewN ?_ _) | (with_reducible refine Kd.C_drew ?_)))
            (case aB => exact (bw HB))
            (case aF => exact (fun k_ hk => ⟨Kd.fresh' (Kd.R_lt (rk HO_4)) k_ hk, Kd.fresh' (Kd.R_lt (rk HO495)) k_ hk⟩))
            (case aO => exact (by (with_reducible repeat (first | apply Kd.R_alloc | apply Kd.R_drewN | apply Kd.R_drew)); exact Kd.R_mono HO489.out (fun _ hk => ⟨hk.1.2, hk.2⟩)))
            (case aS => exact (below_size (bw HB)))
            (case aL => have := LMc28.out; omega)
            intro v491 w44 ho hb hg hat
            rw [← Ny490.out] at ho
            have n0_ := Aside0.mk (Kd.R_after (ok := (fun k_ => some k_ ≠ (v494 : Value).ownBlock)) (by (with_reducible repeat (first | apply Kd.R_alloc | apply Kd.R_drewN | apply Kd.R_drew)); exact Kd.R_mono HO_4.out (fun _ hk => ⟨hk.2, hk.1.2⟩)) hg hat)
            have n1_ := Aside0.mk (Kd.R_over' (rk HO_484000) (Kd.R_typed (rk HO489)) (by decide) hg)
            have n2_ := Aside0.mk (Kd.R_over' (rk HO_484001) (Kd.R_typed (rk HO489)) (by decide) hg)
            have n3_ := Aside0.mk (Kd.R_over' (rk HO_484002) (Kd.R_typed (rk HO489)) (by decide) hg)
            have n4_ := Aside0.mk (blk_grown (bk BK483) hg (Kd.R_ne HO489.out BK483.out (by decide)))
            have n5_ := Aside0.mk (Kd.R_after (ok := (fun k_ => some k_ ≠ (.slice Ao13 t480.length co13 : Value).ownBlock)) (by (with_reducible repeat (first | apply Kd.R_alloc | apply Kd.R_drewN | apply Kd.R_drew)); exact Kd.R_mono HO495.out (fun _ hk => ⟨hk.1.2, hk.2⟩)) hg hat)
            have n6_ := Aside0.mk (hb)
            have n7_ := Aside0.mk (ho)
            clear HO_4
            clear HO_484000
            clear HO_484001
            clear HO_484002
            clear BK483
            clear HO495
            clear HB
            clear HO489
            have HO_4 := n0_
            have HO_484000 := n1_
            have HO_484001 := n2_
            have HO_484002 := n3_
            have BK483 := n4_
            have HO495 := n5_
            have HB := n6_
            have HO492 := n7_
            clear n0_ n1_ n2_ n3_ n4_ n5_ n6_ n7_
            clear ho hb hg hat
            refine hK.out _ _ ⟨(blk_cell BK483.out 0).trans rfl, (blk_cell BK483.out 1).trans rfl, (blk_cell BK483.out 2).trans rfl⟩ (fun hHeld => ?_)
            clear hK K
            refine norm_ (a' := ?_) ?_ ?_
            rotate_left
            ·show Act.put _ (some 40) _ = _
             simp only [Act.put, List.setIfInBounds_toArray, List.set_cons_zero, List.set_cons_succ, i64_w, i32_w]
             rfl
            exact norm_ (by simp only [putAll, Act.put, List.setIfInBounds_toArray, List.set_cons_zero, List.set_cons_succ]) (hCont (v488, v491, v494) _ ⟨hHeld, (by (with_reducible repeat (first | apply Kd.R_alloc | apply Kd.R_drewN | apply Kd.R_drew)); exact Kd.R_mono HO492.out (fun _ hk => ⟨hk.2, hk.1⟩)), (by (with_reducible repeat (first | apply Kd.R_alloc | apply Kd.R_drewN | apply Kd.R_drew)); exact Kd.R_mono HO495.out (fun _ hk => ⟨hk.2, hk.1⟩)), (by (with_reducible repeat (first | apply Kd.R_alloc | apply Kd.R_drewN | apply Kd.R_drew)); exact Kd.R_mono HO_4.out (fun _ hk => ⟨hk.2, hk.1⟩)), (rk HO_484000), (rk HO_484001), (rk HO_484002), (bk BK483), (bw HB)⟩)
          ·skip
           refine Kd.R_lit_step k86 _ 86 ?hg (N := 42) ?hd (xs := ([(⟨19, 0⟩ : S86)] : List (S86))) (inner := [.int .i64 19, .int .i64 0]) (ok := fun _ => True) (okp := fun _ => True) ?hr ?hp (fun _ hk => hk) trivial (Below.refl _ _) (Nat.le_refl _) (by simp) ?_; (case hd => rfl); (case hg => rfl); (case hr => first | (go_simp; done) | (go_simp; rfl)); (case hp => exact (Reps.c2 (show Kd.M k86 _ _ _ (⟨19, 0⟩ : S86) [.int .i64 19, .int .i64 0] from (k86_mkM _ _ _ (⟨19, 0⟩ : S86) )) (Reps.none _ _)))
           intro v494 w40 ho41 hb hg_ hnew_
           clear hg_ hnew_
           (first | rw [← Ny493.out] at ho41 | (simp only [Int.reduceToNat] at ho41; rw [← Ny493.out] at ho41))
           have n0_ := Aside0.mk (Kd.R_elder' (rk HO_4) (Kd.R_base ho41) hb)
           have n1_ := Aside0.mk (Kd.R_below (rk HO_484000) hb)
           have n2_ := Aside0.mk (Kd.R_below (rk HO_484001) hb)
           have n3_ := Aside0.mk (Kd.R_below (rk HO_484002) hb)
           have n4_ := Aside0.mk (Kd.R_lower (Kd.R_new' ho41 (Kd.R_lt (rk HO_4))) (below_size (bw HB)))
           have n5_ := bb BK483 hb
           have n6_ := bs HB hb
           clear HO_4
           clear HO_484000
           clear HO_484001
           clear HO_484002
           clear BK483
           clear HB
           have HO_4 := n0_
           have HO_484000 := n1_
           have HO_484001 := n2_
           have HO_484002 := n3_
           have HO495 := n4_
           have BK483 := n5_
           have HB := n6_
           clear n0_ n1_ n2_ n3_ n4_ n5_ n6_
           clear hb ho41
           refine hK.out _ _ ⟨(blk_cell BK483.out 0).trans rfl, (blk_cell BK483.out 1).trans rfl, (blk_cell BK483.out 2).trans rfl⟩ (fun hHeld => ?_)
           clear hK K
           refine norm_ (a' := ?_) ?_ ?_
           rotate_left
           ·show Act.put _ (some 42) _ = _
            simp only [Act.put, List.setIfInBounds_toArray, List.set_cons_zero, List.set_cons_succ, i64_w, i32_w]
            rfl
           refine one_ (i := 1) (N := some 38) #[true, true, true, false, true, true, false, false, false] rfl rfl (one_of HT_.out (by kernel_rfl)) (by decide) (fun K hK => ?_)
           refine Kd.R_lit_step k86 _ 86 ?hg (N := 38) ?hd (xs := ([] : List (S86))) (inner := []) (ok := fun _ => True) (okp := fun _ => True) ?hr ?hp (fun _ hk => hk) trivial (Below.refl _ _) (Nat.le_refl _) (by simp) ?_; (case hd => rfl); (case hg => rfl); (case hr => first | (go_simp; done) | (go_simp; rfl)); (case hp => exact (Reps.none _ _))
           intro v488 w42 ho43 hb hg_ hnew_
           clear hg_ hnew_
           (first | rw [← Ny487.out] at ho43 | (simp only [Int.reduceToNat] at ho43; rw [← Ny487.out] at ho43))
           have n0_ := Aside0.mk (Kd.R_elder' (rk HO_4) (Kd.R_base ho43) hb)
           have n1_ := Aside0.mk (Kd.R_below (rk HO_484000) hb)
           have n2_ := Aside0.mk (Kd.R_below (rk HO_484001) hb)
           have n3_ := Aside0.mk (Kd.R_below (rk HO_484002) hb)
           have n4_ := Aside0.mk (Kd.R_elder' (rk HO495) (Kd.R_base ho43) hb)
           have n5_ := Aside0.mk (Kd.R_lower (Kd.R_new' (Kd.R_new' ho43 (Kd.R_lt (rk HO_4))) (Kd.R_lt (rk HO495))) (below_size (bw HB)))
           have n6_ := bb BK483 hb
           have n7_ := bs HB hb
           clear HO_4
           clear HO_484000
           clear HO_484001
           clear HO_484002
           clear HO495
           clear BK483
           clear HB
           have HO_4 := n0_
           have HO_484000 := n1_
           have HO_484001 := n2_
           have HO_484002 := n3_
           have HO495 := n4_
           have HO489 := n5_
           have BK483 := n6_
           have HB := n7_
           clear n0_ n1_ n2_ n3_ n4_ n5_ n6_ n7_
           clear hb ho43
           refine hK.out _ _ ⟨(blk_cell BK483.out 0).trans rfl, (blk_cell BK483.out 1).trans rfl, (blk_cell BK483.out 2).trans rfl⟩ (fun hHeld => ?_)
           clear hK K
           refine norm_ (a' := ?_) ?_ ?_
           rotate_left
           ·show Act.put _ (some 38) _ = _
            simp only [Act.put, List.setIfInBounds_toArray, List.set_cons_zero, List.set_cons_succ, i64_w, i32_w]
            rfl
           refine one_ (i := 3) (N := some 40) #[true, true, true, true, true, true, false, false, false] rfl rfl (one_of HT_.out (by kernel_rfl)) (by decide) (fun K hK => ?_)
           refine Kd.R_append_rows_step k86 (w0 := w) w.heap.size (by rfl) (.tmp 38) (.tmp 39) 68 86 (.agg #[(.int .i64 0), (.int .i64 0)]) 16 rfl Tryd.underlying68 info86 rfl (by decide) (by omega) v488 y487 t480 _ _ _ (fun k_ => some k_ ≠ (.slice Ao13 t480.length co13 : Value).ownBlock ∧ some k_ ≠ (v494 : Value).ownBlock) (fun _ => False) rfl rfl ?aO ?aR (fun _ _ h => h) (fun _ h => h.elim) ?aF ?aB ?aS ?aL ?_
           (case aR => repeat (first | exact (Kd.R_reads' HO_4.out).2.2 | (with_reducible refine Kd.C_alloc ?_ _) | (with_reducible refine Kd.C_drewN ?_ _) | (with_reducible refine Kd.C_drew ?_)))
           (case aB => exact (bw HB))
           (case aF => exact (fun k_ hk => ⟨Kd.fresh' (Kd.R_lt (rk HO_4)) k_ hk, Kd.fresh' (Kd.R_lt (rk HO495)) k_ hk⟩))
           (case aO => exact (by (with_reducible repeat (first | apply Kd.R_alloc | apply Kd.R_drewN | apply Kd.R_drew)); exact Kd.R_mono HO489.out (fun _ hk => ⟨hk.1.2, hk.2⟩)))
           (case aS => exact (below_size (bw HB)))
           (case aL => have := LMc28.out; omega)
           intro v491 w44 ho hb hg hat
           rw [← Ny490.out] at ho
           have n0_ := Aside0.mk (Kd.R_after (ok := (fun k_ => some k_ ≠ (v494 : Value).ownBlock)) (by (with_reducible repeat (first | apply Kd.R_alloc | apply Kd.R_drewN | apply Kd.R_drew)); exact Kd.R_mono HO_4.out (fun _ hk => ⟨hk.1.2, hk.2⟩)) hg hat)
           have n1_ := Aside0.mk (Kd.R_over' (rk HO_484000) (Kd.R_typed (rk HO489)) (by decide) hg)
           have n2_ := Aside0.mk (Kd.R_over' (rk HO_484001) (Kd.R_typed (rk HO489)) (by decide) hg)
           have n3_ := Aside0.mk (Kd.R_over' (rk HO_484002) (Kd.R_typed (rk HO489)) (by decide) hg)
           have n4_ := Aside0.mk (blk_grown (bk BK483) hg (Kd.R_ne HO489.out BK483.out (by decide)))
           have n5_ := Aside0.mk (Kd.R_after (ok := (fun k_ => some k_ ≠ (.slice Ao13 t480.length co13 : Value).ownBlock)) (by (with_reducible repeat (first | apply Kd.R_alloc | apply Kd.R_drewN | apply Kd.R_drew)); exact Kd.R_mono HO495.out (fun _ hk => ⟨hk.1.2, hk.2⟩)) hg hat)
           have n6_ := Aside0.mk (hb)
           have n7_ := Aside0.mk (ho)
           clear HO_4
           clear HO_484000
           clear HO_484001
           clear HO_484002
           clear BK483
           clear HO495
           clear HB
           clear HO489
           have HO_4 := n0_
           have HO_484000 := n1_
           have HO_484001 := n2_
           have HO_484002 := n3_
           have BK483 := n4_
           have HO495 := n5_
           have HB := n6_
           have HO492 := n7_
           clear n0_ n1_ n2_ n3_ n4_ n5_ n6_ n7_
           clear ho hb hg hat
           refine hK.out _ _ ⟨(blk_cell BK483.out 0).trans rfl, (blk_cell BK483.out 1).trans rfl, (blk_cell BK483.out 2).trans rfl⟩ (fun hHeld => ?_)
           clear hK K
           refine norm_ (a' := ?_) ?_ ?_
           rotate_left
           ·show Act.put _ (some 40) _ = _
            simp only [Act.put, List.setIfInBounds_toArray, List.set_cons_zero, List.set_cons_succ, i64_w, i32_w]
            rfl
           exact norm_ (by simp only [putAll, Act.put, List.setIfInBounds_toArray, List.set_cons_zero, List.set_cons_succ]) (hCont (v488, v491, v494) _ ⟨hHeld, (by (with_reducible repeat (first | apply Kd.R_alloc | apply Kd.R_drewN | apply Kd.R_drew)); exact Kd.R_mono HO492.out (fun _ hk => ⟨hk.2, hk.1⟩)), (by (with_reducible repeat (first | apply Kd.R_alloc | apply Kd.R_drewN | apply Kd.R_drew)); exact Kd.R_mono HO495.out (fun _ hk => ⟨hk.2, hk.1⟩)), (by (with_reducible repeat (first | apply Kd.R_alloc | apply Kd.R_drewN | apply Kd.R_drew)); exact Kd.R_mono HO_4.out (fun _ hk => ⟨hk.2, hk.1⟩)), (rk HO_484000), (rk HO_484001), (rk HO_484002), (bk BK483), (bw HB)⟩)
         rintro ⟨v488, v491, v494⟩ w45 ⟨hS_, h0_, h1_, h2_, h3_, h4_, h5_, h6_, h7_⟩
         have n0_ : Aside0 (Kd.R k86 86 w45 w.heap.size (fun k_ => some k_ ≠ (v494 : Value).ownBlock ∧ some k_ ≠ (.slice Ao13 t480.length co13 : Value).ownBlock) v491 y490) := ⟨h0_⟩
         have n1_ : Aside0 (Kd.R k86 86 w45 w.heap.size (fun k_ => some k_ ≠ (v491 : Value).ownBlock ∧ some k_ ≠ (.slice Ao13 t480.length co13 : Value).ownBlock) v494 y493) := ⟨h1_⟩
         have n2_ : Aside0 (Kd.R k86 86 w45 w.heap.size (fun k_ => some k_ ≠ (v491 : Value).ownBlock ∧ some k_ ≠ (v494 : Value).ownBlock) (.slice Ao13 t480.length co13) t480) := ⟨h2_⟩
         have n3_ : Aside0 (Kd.R Kd.string 9 w45 w.heap.size (fun k_ => some k_ ≠ (.slice Ao11 t474.length co11 : Value).ownBlock) (.slice Ao9 t471.length co9) t471) := ⟨h3_⟩
         have n4_ : Aside0 (Kd.R Kd.string 9 w45 w.heap.size (fun k_ => some k_ ≠ (.slice Ao9 t471.length co9 : Value).ownBlock) (.slice Ao11 t474.length co11) t474) := ⟨h4_⟩
         have n5_ : Aside0 (Kd.R k91 91 w45 w.heap.size (fun _ => True) (.slice Ao12 t477.length co12) t477) := ⟨h5_⟩
         have n6_ : Aside0 (w45.heap[gb483]? = some (.cells #[.slice Ao9 t471.length co9, .slice Ao11 t474.length co11, .slice Ao12 t477.length co12] 30 (0, 0))) := ⟨h6_⟩
         have n7_ : Aside0 (Below w.heap.size w w45) := ⟨h7_⟩
         clear HO_4
         clear HO_484000
         clear HO_484001
         clear HO_484002
         clear BK483
         clear HB
         clear h0_ h1_ h2_ h3_ h4_ h5_ h6_ h7_
         have HO492 := n0_
         have HO495 := n1_
         have HO_4 := n2_
         have HO_484000 := n3_
         have HO_484001 := n4_
         have HO_484002 := n5_
         have BK483 := n6_
         have HB := n7_
         clear n0_ n1_ n2_ n3_ n4_ n5_ n6_ n7_
         have hHeld : w45.cell? ⟨gb483, 0, none⟩ = some (.slice Ao9 t471.length co9) ∧ w45.cell? ⟨gb483, 1, none⟩ = some (.slice Ao11 t474.length co11) ∧ w45.cell? ⟨gb483, 2, none⟩ = some (.slice Ao12 t477.length co12) := hS_
         obtain ⟨Ao47, co47, eo47⟩ := Kd.R_slice HO495.out
         (first | subst eo47 | (injection eo47 with f1_ f2_ f3_; have f4_ := f1_.symm; have f5_ := f3_.symm; clear f1_ f2_ f3_; subst f4_; subst f5_))
         refine norm_ (a' := ?_) ?_ ?_
         rotate_left
         ·simp only [putAll, Act.put, List.setIfInBounds_toArray, List.set_cons_zero, List.set_cons_succ]
          rfl
         refine one_ (i := 6) (N := some 43) #[true, true, true, true, true, true, true, false, false] rfl rfl (one_of HT_.out (by kernel_rfl)) (by decide) (fun K hK => ?_)
         refine Kd.R_append_rows_step k86 (w0 := w) w.heap.size (by rfl) (.tmp 40) (.tmp 42) 68 86 (.agg #[(.int .i64 0), (.int .i64 0)]) 16 rfl Tryd.underlying68 info86 rfl (by decide) (by omega) v491 y490 y493 _ _ _ (fun k_ => some k_ ≠ (.slice Ao13 t480.length co13 : Value).ownBlock ∧ some k_ ≠ (.slice Ao47 y493.length co47 : Value).ownBlock) (fun _ => False) rfl rfl ?aO ?aR (fun _ _ h => h) (fun _ h => h.elim) ?aF ?aB ?aS ?aL ?_
         (case aR => repeat (first | exact (Kd.R_reads' HO495.out).2.2 | (with_reducible refine Kd.C_alloc ?_ _) | (with_reducible refine Kd.C_drewN ?_ _) | (with_reducible refine Kd.C_drew ?_)))
         (case aB => exact (bw HB))
         (case aF => exact (fun k_ hk => ⟨Kd.fresh' (Kd.R_lt (rk HO_4)) k_ hk, Kd.fresh' (Kd.R_lt (rk HO495)) k_ hk⟩))
         (case aO => exact (by (with_reducible repeat (first | apply Kd.R_alloc | apply Kd.R_drewN | apply Kd.R_drew)); exact Kd.R_mono HO492.out (fun _ hk => ⟨hk.2, hk.1⟩)))
         (case aS => exact (below_size (bw HB)))
         (case aL => have := LMc29.out; omega)
         intro v497 w46 ho hb hg hat
         rw [← Ny496.out] at ho
         have n0_ := Aside0.mk (Kd.R_after (ok := (fun k_ => some k_ ≠ (.slice Ao47 y493.length co47 : Value).ownBlock)) (by (with_reducible repeat (first | apply Kd.R_alloc | apply Kd.R_drewN | apply Kd.R_drew)); exact Kd.R_mono HO_4.out (fun _ hk => ⟨hk.2, hk.1⟩)) hg hat)
         have n1_ := Aside0.mk (Kd.R_over' (rk HO_484000) (Kd.R_typed (rk HO492)) (by decide) hg)
         have n2_ := Aside0.mk (Kd.R_over' (rk HO_484001) (Kd.R_typed (rk HO492)) (by decide) hg)
         have n3_ := Aside0.mk (Kd.R_over' (rk HO_484002) (Kd.R_typed (rk HO492)) (by decide) hg)
         have n4_ := Aside0.mk (blk_grown (bk BK483) hg (Kd.R_ne HO492.out BK483.out (by decide)))
         have n5_ := Aside0.mk (Kd.R_after (ok := (fun k_ => some k_ ≠ (.slice Ao13 t480.length co13 : Value).ownBlock)) (by (with_reducible repeat (first | apply Kd.R_alloc | apply Kd.R_drewN | apply Kd.R_drew)); exact Kd.R_mono HO495.out (fun _ hk => ⟨hk.2, hk.1⟩)) hg hat)
         have n6_ := Aside0.mk (hb)
         have n7_ := Aside0.mk (ho)
         clear HO_4
         clear HO_484000
         clear HO_484001
         clear HO_484002
         clear BK483
         clear HO495
         clear HB
         clear HO492
         have HO_4 := n0_
         have HO_484000 := n1_
         have HO_484001 := n2_
         have HO_484002 := n3_
         have BK483 := n4_
         have HO495 := n5_
         have HB := n6_
         have HO498 := n7_
         clear n0_ n1_ n2_ n3_ n4_ n5_ n6_ n7_
         clear ho hb hg hat
         obtain ⟨Ao48, co48, eo48⟩ := Kd.R_slice HO498.out
         (first | subst eo48 | (injection eo48 with f1_ f2_ f3_; have f4_ := f1_.symm; have f5_ := f3_.symm; clear f1_ f2_ f3_; subst f4_; subst f5_))
         refine hK.out _ _ ⟨(blk_cell BK483.out 0).trans rfl, (blk_cell BK483.out 1).trans rfl, (blk_cell BK483.out 2).trans rfl⟩ (fun hHeld => ?_)
         clear hK K
         refine norm_ (a' := ?_) ?_ ?_
         rotate_left
         ·show Act.put _ (some 43) _ = _
          simp only [Act.put, List.setIfInBounds_toArray, List.set_cons_zero, List.set_cons_succ, i64_w, i32_w]
          rfl
         refine one_ (i := 7) (N := some 44) #[true, true, true, true, true, true, true, true, false] rfl rfl (one_of HT_.out (by kernel_rfl)) (by decide) (fun K hK => ?_)
         refine goes_ Tryd.func37 (by kernel_rfl) rfl #[.agg #[.slice Ao9 t471.length co9, .slice Ao11 t474.length co11, .slice Ao12 t477.length co12], .slice Ao48 y496.length co48] (by rfl) rfl rfl (by (try simp only [List.map_toArray, List.map_cons, List.map_nil]); first | done | rfl | (simp only [List.length_drop, List.length_take]; rfl)) ?_
         with_reducible refine (impl_ExprOk.calls _ _ t471 _ _ t474 _ _ t477 _ _ y496 t499 _ ?side1 ?side2 ?side3 ?side4 ?side5 ?side6 ?side7 ?side8 A30.out).mono ?_
         (case side1 => repeat (first | exact (Kd.R_reads' HO_484000.out).2.2 | (with_reducible refine Kd.C_alloc ?_ _) | (with_reducible refine Kd.C_drewN ?_ _) | (with_reducible refine Kd.C_drew ?_)))
         (case side2 => exact (Kd.R_reads' HO_484000.out).2.1)
         (case side3 => repeat (first | exact (Kd.R_reads' HO_484001.out).2.2 | (with_reducible refine Kd.C_alloc ?_ _) | (with_reducible refine Kd.C_drewN ?_ _) | (with_reducible refine Kd.C_drew ?_)))
         (case side4 => exact (Kd.R_reads' HO_484001.out).2.1)
         (case side5 => repeat (first | exact (Kd.R_reads' HO_484002.out).2.2 | (with_reducible refine Kd.C_alloc ?_ _) | (with_reducible refine Kd.C_drewN ?_ _) | (with_reducible refine Kd.C_drew ?_)))
         (case side6 => exact (Kd.R_reads' HO_484002.out).2.1)
         (case side7 => repeat (first | exact (Kd.R_reads' HO498.out).2.2 | (with_reducible refine Kd.C_alloc ?_ _) | (with_reducible refine Kd.C_drewN ?_ _) | (with_reducible refine Kd.C_drew ?_)))
         (case side8 => exact (Kd.R_reads' HO498.out).2.1)
         rintro e w49 ⟨rfl, hb⟩
         refine ⟨_, rfl, ?_⟩
         have n0_ := Aside0.mk (Kd.R_below (rk HO_4) hb)
         have n1_ := Aside0.mk (Kd.R_below (rk HO_484000) hb)
         have n2_ := Aside0.mk (Kd.R_below (rk HO_484001) hb)
         have n3_ := Aside0.mk (Kd.R_below (rk HO_484002) hb)
         have n4_ := Aside0.mk (Kd.R_below (rk HO495) hb)
         have n5_ := Aside0.mk (Kd.R_below (rk HO498) hb)
         have n6_ := bb BK483 hb
         have n7_ := bs HB hb
         clear HO_4
         clear HO_484000
         clear HO_484001
         clear HO_484002
         clear HO495
         clear HO498
         clear BK483
         clear HB
         have HO_4 := n0_
         have HO_484000 := n1_
         have HO_484001 := n2_
         have HO_484002 := n3_
         have HO495 := n4_
         have HO498 := n5_
         have BK483 := n6_
         have HB := n7_
         clear n0_ n1_ n2_ n3_ n4_ n5_ n6_ n7_
         (try clear hb)
         (try clear hb2)
         (try clear hk)
         (try clear hi)
         refine hK.out _ _ ⟨(blk_cell BK483.out 0).trans rfl, (blk_cell BK483.out 1).trans rfl, (blk_cell BK483.out 2).trans rfl⟩ (fun hHeld => ?_)
         clear hK K
         refine norm_ (a' := ?_) ?_ ?_
         rotate_left
         ·show Act.put _ (some 44) _ = _
          simp only [Act.put, List.setIfInBounds_toArray, List.set_cons_zero, List.set_cons_succ, i64_w, i32_w]
          rfl
         refine pure_ (i := 8) (N := some 6) (v := ?_) (a' := ?_) #[true, true, true, true, true, true, true, true, true] rfl rfl (any_of HT_.out (by kernel_rfl)) (fun _ _ _ h => h) (Or.inl ⟨by rfl, ?_⟩) ?_ ?_
         rotate_left
         ·intro w'
          go_simp
          with_reducible rfl
         rotate_left
         ·simp only [Act.put, List.setIfInBounds_toArray, List.set_cons_zero, List.set_cons_succ, i64_w, i32_w]
          rfl
         refine done_ (done_of HT_.out (by kernel_rfl)) ?_
         try go_wp2
         have n0_ := Aside0.mk (Kd.R_drew HO_4.out)
         have n1_ := Aside0.mk (Kd.R_drew HO_484000.out)
         have n2_ := Aside0.mk (Kd.R_drew HO_484001.out)
         have n3_ := Aside0.mk (Kd.R_drew HO_484002.out)
         have n4_ := Aside0.mk (Kd.R_drew HO495.out)
         have n5_ := Aside0.mk (Kd.R_drew HO498.out)
         have n6_ := Aside0.mk (blk_drew BK483.out)
         have n7_ := Aside0.mk (below_drew1 HB.out)
         clear HO_4
         clear HO_484000
         clear HO_484001
         clear HO_484002
         clear HO495
         clear HO498
         clear BK483
         clear HB
         have HO_4 := n0_
         have HO_484000 := n1_
         have HO_484001 := n2_
         have HO_484002 := n3_
         have HO495 := n4_
         have HO498 := n5_
         have BK483 := n6_
         have HB := n7_
         clear n0_ n1_ n2_ n3_ n4_ n5_ n6_ n7_
         refine start_ (n := 9) (S := fun w' => w'.cell? ⟨gb483, 0, none⟩ = some (.slice Ao9 t471.length co9) ∧ w'.cell? ⟨gb483, 1, none⟩ = some (.slice Ao11 t474.length co11) ∧ w'.cell? ⟨gb483, 2, none⟩ = some (.slice Ao12 t477.length co12)) (ds := []) #[false, false, false, false, false, false, false, false, false] (by kernel_rfl) rfl rfl ⟨(blk_cell BK483.out 0).trans rfl, (blk_cell BK483.out 1).trans rfl, (blk_cell BK483.out 2).trans rfl⟩ (fun hHeld => ?_); refine with_tabW laws_FnKinds.tab8 laws_FnKinds.bits8 (fun HT_ HW_ => ?_)
         generalize w49.drew = w50 at HO_4 HO_484000 HO_484001 HO_484002 HO495 HO498 BK483 HB hHeld ⊢
         refine pure_ (i := 2) (N := some 47) (v := ?_) (a' := ?_) #[false, false, true, false, false, false, false, false, false] rfl rfl (any_of HT_.out (by kernel_rfl)) (fun _ _ _ h => h) (Or.inl ⟨by rfl, ?_⟩) ?_ ?_
         rotate_left
         ·intro w'
          go_simp
          with_reducible rfl
         rotate_left
         ·simp only [Act.put, List.setIfInBounds_toArray, List.set_cons_zero, List.set_cons_succ, i64_w, i32_w]
          rfl
         refine pure_ (i := 4) (N := some 49) (v := ?_) (a' := ?_) #[false, false, true, false, true, false, false, false, false] rfl rfl (any_of HT_.out (by kernel_rfl)) (fun _ _ _ h => h) (Or.inl ⟨by rfl, ?_⟩) ?_ ?_
         rotate_left
         ·intro w'
          go_simp
          with_reducible rfl
         rotate_left
         ·simp only [Act.put, List.setIfInBounds_toArray, List.set_cons_zero, List.set_cons_succ, i64_w, i32_w]
          rfl
         refine take_ (i := 0) (N := some 45) (v := ?_) (a' := ?_) #[true, false, true, false, true, false, false, false, false] rfl rfl (take_ofW HT_.out HW_.out (by kernel_rfl)) (fun _ _ _ h => h) (Or.inl ⟨by rfl, ?_⟩) hHeld ?_ ?_
         rotate_left
         ·rintro w' ⟨s0, s1, s2⟩
          go_simp
          with_reducible rfl
         rotate_left
         ·simp only [Act.put, List.setIfInBounds_toArray, List.set_cons_zero, List.set_cons_succ, i64_w, i32_w]
          rfl
         refine join_ (σ := Value × Value × Value) 3 #[true, true, true, true, true, true, false, false, false] (fun s_ => [(46, s_.1), (48, s_.2.1), (50, s_.2.2)]) (fun s_ w' => (w'.cell? ⟨gb483, 0, none⟩ = some (.slice Ao9 t471.length co9) ∧ w'.cell? ⟨gb483, 1, none⟩ = some (.slice Ao11 t474.length co11) ∧ w'.cell? ⟨gb483, 2, none⟩ = some (.slice Ao12 t477.length co12)) ∧ (Kd.R k86 86 w' w.heap.size (fun k_ => some k_ ≠ (.slice Ao48 y496.length co48 : Value).ownBlock ∧ some k_ ≠ (s_.2.1 : Value).ownBlock ∧ some k_ ≠ (s_.2.2 : Value).ownBlock ∧ some k_ ≠ (.slice Ao13 t480.length co13 : Value).ownBlock) (.slice Ao47 y493.length co47) y493) ∧ (Kd.R k86 86 w' w.heap.size (fun k_ => some k_ ≠ (.slice Ao47 y493.length co47 : Value).ownBlock ∧ some k_ ≠ (s_.2.1 : Value).ownBlock ∧ some k_ ≠ (s_.2.2 : Value).ownBlock ∧ some k_ ≠ (.slice Ao13 t480.length co13 : Value).ownBlock) (.slice Ao48 y496.length co48) y496) ∧ (Kd.R k86 86 w' w.heap.size (fun k_ => some k_ ≠ (.slice Ao47 y493.length co47 : Value).ownBlock ∧ some k_ ≠ (.slice Ao48 y496.length co48 : Value).ownBlock ∧ some k_ ≠ (s_.2.2 : Value).ownBlock ∧ some k_ ≠ (.slice Ao13 t480.length co13 : Value).ownBlock) s_.2.1 y503) ∧ (Kd.R k86 86 w' w.heap.size (fun k_ => some k_ ≠ (.slice Ao47 y493.length co47 : Value).ownBlock ∧ some k_ ≠ (.slice Ao48 y496.length co48 : Value).ownBlock ∧ some k_ ≠ (s_.2.1 : Value).ownBlock ∧ some k_ ≠ (.slice Ao13 t480.length co13 : Value).ownBlock) s_.2.2 y506) ∧ (Kd.R k86 86 w' w.heap.size (fun k_ => some k_ ≠ (.slice Ao47 y493.length co47 : Value).ownBlock ∧ some k_ ≠ (.slice Ao48 y496.length co48 : Value).ownBlock ∧ some k_ ≠ (s_.2.1 : Value).ownBlock ∧ some k_ ≠ (s_.2.2 : Value).ownBlock) (.slice Ao13 t480.length co13) t480) ∧ (Kd.R Kd.string 9 w' w.heap.size (fun k_ => some k_ ≠ (.slice Ao11 t474.length co11 : Value).ownBlock) (.slice Ao9 t471.length co9) t471) ∧ (Kd.R Kd.string 9 w' w.heap.size (fun k_ => some k_ ≠ (.slice Ao9 t471.length co9 : Value).ownBlock) (.slice Ao11 t474.length co11) t474) ∧ (Kd.R k91 91 w' w.heap.size (fun _ => True) (.slice Ao12 t477.length co12) t477) ∧ (w'.heap[gb483]? = some (.cells #[.slice Ao9 t471.length co9, .slice Ao11 t474.length co11, .slice Ao12 t477.length co12] 30 (0, 0))) ∧ (Below w.heap.size w w')) ?_ ?_
         rotate_left
         ·intro hCont
          refine two_ (i := 1) (j := 5) (Ni := some 46) (Nj := some 50) #[true, true, true, false, true, false, false, false, false] #[true, false, true, false, true, true, false, false, false] rfl rfl rfl rfl (two_of HT_.out (by kernel_rfl)) (by decide) (by decide) (fun K hK => ?_) (fun K hK => ?_)
          ·skip
           refine Kd.R_lit_step k86 _ 86 ?hg (N := 46) ?hd (xs := ([] : List (S86))) (inner := []) (ok := fun _ => True) (okp := fun _ => True) ?hr ?hp (fun _ hk => hk) trivial (Below.refl _ _) (Nat.le_refl _) (by simp) ?_; (case hd => rfl); (case hg => rfl); (case hr => first | (go_simp; done) | (go_simp; rfl)); (case hp => exact (Reps.none _ _))
           intro v501 w51 ho52 hb hg_ hnew_
           clear hg_ hnew_
           (first | rw [← Ny500.out] at ho52 | (simp only [Int.reduceToNat] at ho52; rw [← Ny500.out] at ho52))
           have n0_ := Aside0.mk (Kd.R_elder' (rk HO_4) (Kd.R_base ho52) hb)
           have n1_ := Aside0.mk (Kd.R_below (rk HO_484000) hb)
           have n2_ := Aside0.mk (Kd.R_below (rk HO_484001) hb)
           have n3_ := Aside0.mk (Kd.R_below (rk HO_484002) hb)
           have n4_ := Aside0.mk (Kd.R_elder' (rk HO495) (Kd.R_base ho52) hb)
           have n5_ := Aside0.mk (Kd.R_elder' (rk HO498) (Kd.R_base ho52) hb)
           have n6_ := Aside0.mk (Kd.R_lower (Kd.R_new' (Kd.R_new' (Kd.R_new' ho52 (Kd.R_lt (rk HO_4))) (Kd.R_lt (rk HO495))) (Kd.R_lt (rk HO498))) (below_size (bw HB)))
           have n7_ := bb BK483 hb
           have n8_ := bs HB hb
           clear HO_4
           clear HO_484000
           clear HO_484001
           clear HO_484002
           clear HO495
           clear HO498
           clear BK483
           clear HB
           have HO_4 := n0_
           have HO_484000 := n1_
           have HO_484001 := n2_
           have HO_484002 := n3_
           have HO495 := n4_
           have HO498 := n5_
           have HO502 := n6_
           have BK483 := n7_
           have HB := n8_
           clear n0_ n1_ n2_ n3_ n4_ n5_ n6_ n7_ n8_
           clear hb ho52
           refine hK.out _ _ ⟨(blk_cell BK483.out 0).trans rfl, (blk_cell BK483.out 1).trans rfl, (blk_cell BK483.out 2).trans rfl⟩ (fun hHeld => ?_)
           clear hK K
           refine norm_ (a' := ?_) ?_ ?_
           rotate_left
           ·show Act.put _ (some 46) _ = _
            simp only [Act.put, List.setIfInBounds_toArray, List.set_cons_zero, List.set_cons_succ, i64_w, i32_w]
            rfl
           refine two_ (i := 3) (j := 5) (Ni := some 48) (Nj := some 50) #[true, true, true, true, true, false, false, false, false] #[true, true, true, false, true, true, false, false, false] rfl rfl rfl rfl (two_of HT_.out (by kernel_rfl)) (by decide) (by decide) (fun K hK => ?_) (fun K hK => ?_)
           ·skip
            refine Kd.R_append_rows_step k86 (w0 := w) w.heap.size (by rfl) (.tmp 46) (.tmp 47) 68 86 (.agg #[(.int .i64 0), (.int .i64 0)]) 16 rfl Tryd.underlying68 info86 rfl (by decide) (by omega) v501 y500 t480 _ _ _ (fun k_ => some k_ ≠ (.slice Ao13 t480.length co13 : Value).ownBlock ∧ some k_ ≠ (.slice Ao47 y493.length co47 : Value).ownBlock ∧ some k_ ≠ (.slice Ao48 y496.length co48 : Value).ownBlock) (fun _ => False) rfl rfl ?aO ?aR (fun _ _ h => h) (fun _ h => h.elim) ?aF ?aB ?aS ?aL ?_
            (case aR => repeat (first | exact (Kd.R_reads' HO_4.out).2.2 | (with_reducible refine Kd.C_alloc ?_ _) | (with_reducible refine Kd.C_drewN ?_ _) | (with_reducible refine Kd.C_drew ?_)))
            (case aB => exact (bw HB))
            (case aF => exact (fun k_ hk => ⟨Kd.fresh' (Kd.R_lt (rk HO_4)) k_ hk, Kd.fresh' (Kd.R_lt (rk HO495)) k_ hk, Kd.fresh' (Kd.R_lt (rk HO498)) k_ hk⟩))
            (case aO => exact (by (with_reducible repeat (first | apply Kd.R_alloc | apply Kd.R_drewN | apply Kd.R_drew)); exact Kd.R_mono HO502.out (fun _ hk => ⟨hk.1.1.2, ⟨hk.1.2, hk.2⟩⟩)))
            (case aS => exact (below_size (bw HB)))
            (case aL => have := LMc31.out; omega)
            intro v504 w53 ho hb hg hat
            rw [← Ny503.out] at ho
            have n0_ := Aside0.mk (Kd.R_after (ok := (fun k_ => some k_ ≠ (.slice Ao47 y493.length co47 : Value).ownBlock ∧ some k_ ≠ (.slice Ao48 y496.length co48 : Value).ownBlock)) (rk HO_4) hg hat)
            have n1_ := Aside0.mk (Kd.R_over' (rk HO_484000) (Kd.R_typed (rk HO502)) (by decide) hg)
            have n2_ := Aside0.mk (Kd.R_over' (rk HO_484001) (Kd.R_typed (rk HO502)) (by decide) hg)
            have n3_ := Aside0.mk (Kd.R_over' (rk HO_484002) (Kd.R_typed (rk HO502)) (by decide) hg)
            have n4_ := Aside0.mk (blk_grown (bk BK483) hg (Kd.R_ne HO502.out BK483.out (by decide)))
            have n5_ := Aside0.mk (Kd.R_after (ok := (fun k_ => some k_ ≠ (.slice Ao13 t480.length co13 : Value).ownBlock ∧ some k_ ≠ (.slice Ao48 y496.length co48 : Value).ownBlock)) (rk HO495) hg hat)
            have n6_ := Aside0.mk (Kd.R_after (ok := (fun k_ => some k_ ≠ (.slice Ao13 t480.length co13 : Value).ownBlock ∧ some k_ ≠ (.slice Ao47 y493.length co47 : Value).ownBlock)) (rk HO498) hg hat)
            have n7_ := Aside0.mk (hb)
            have n8_ := Aside0.mk (ho)
            clear HO_4
            clear HO_484000
            clear HO_484001
            clear HO_484002
            clear BK483
            clear HO495
            clear HO498
            clear HB
            clear HO502
            have HO_4 := n0_
            have HO_484000 := n1_
            have HO_484001 := n2_
            have HO_484002 := n3_
            have BK483 := n4_
            have HO495 := n5_
            have HO498 := n6_
            have HB := n7_
            have HO505 := n8_
            clear n0_ n1_ n2_ n3_ n4_ n5_ n6_ n7_ n8_
            clear ho hb hg hat
            refine hK.out _ _ ⟨(blk_cell BK483.out 0).trans rfl, (blk_cell BK483.out 1).trans rfl, (blk_cell BK483.out 2).trans rfl⟩ (fun hHeld => ?_)
            clear hK K
            refine norm_ (a' := ?_) ?_ ?_
            rotate_left
            ·show Act.put _ (some 48) _ = _
             simp only [Act.put, List.setIfInBounds_toArray, List.set_cons_zero, List.set_cons_succ, i64_w, i32_w]
             rfl
            refine one_ (i := 5) (N := some 50) #[true, true, true, true, true, true, false, false, false] rfl rfl (one_of HT_.out (by kernel_rfl)) (by decide) (fun K hK => ?_)
            refine Kd.R_lit_step k86 _ 86 ?hg (N := 50) ?hd (xs := ([(⟨7, 0⟩ : S86)] : List (S86))) (inner := [.int .i64 7, .int .i64 0]) (ok := fun _ => True) (okp := fun _ => True) ?hr ?hp (fun _ hk => hk) trivial (Below.refl _ _) (Nat.le_refl _) (by simp) ?_; (case hd => rfl); (case hg => rfl); (case hr => first | (go_simp; done) | (go_simp; rfl)); (case hp => exact (Reps.c2 (show Kd.M k86 _ _ _ (⟨7, 0⟩ : S86) [.int .i64 7, .int .i64 0] from (k86_mkM _ _ _ (⟨7, 0⟩ : S86) )) (Reps.none _ _)))
            intro v507 w54 ho55 hb hg_ hnew_
            clear hg_ hnew_
            (first | rw [← Ny506.out] at ho55 | (simp only [Int.reduceToNat] at ho55; rw [← Ny506.out] at ho55))
            have n0_ := Aside0.mk (Kd.R_elder' (rk HO_4) (Kd.R_base ho55) hb)
            have n1_ := Aside0.mk (Kd.R_below (rk HO_484000) hb)
            have n2_ := Aside0.mk (Kd.R_below (rk HO_484001) hb)
            have n3_ := Aside0.mk (Kd.R_below (rk HO_484002) hb)
            have n4_ := Aside0.mk (Kd.R_elder' (rk HO495) (Kd.R_base ho55) hb)
            have n5_ := Aside0.mk (Kd.R_elder' (rk HO498) (Kd.R_base ho55) hb)
            have n6_ := Aside0.mk (Kd.R_elder' (rk HO505) (Kd.R_base ho55) hb)
            have n7_ := Aside0.mk (Kd.R_lower (Kd.R_new' (Kd.R_new' (Kd.R_new' (Kd.R_new' ho55 (Kd.R_lt (rk HO_4))) (Kd.R_lt (rk HO495))) (Kd.R_lt (rk HO498))) (Kd.R_lt (rk HO505))) (below_size (bw HB)))
            have n8_ := bb BK483 hb
            have n9_ := bs HB hb
            clear HO_4
            clear HO_484000
            clear HO_484001
            clear HO_484002
            clear HO495
            clear HO498
            clear HO505
            clear BK483
            clear HB
            have HO_4 := n0_
            have HO_484000 := n1_
            have HO_484001 := n2_
            have HO_484002 := n3_
            have HO495 := n4_
            have HO498 := n5_
            have HO505 := n6_
            have HO508 := n7_
            have BK483 := n8_
            have HB := n9_
            clear n0_ n1_ n2_ n3_ n4_ n5_ n6_ n7_ n8_ n9_
            clear hb ho55
            refine hK.out _ _ ⟨(blk_cell BK483.out 0).trans rfl, (blk_cell BK483.out 1).trans rfl, (blk_cell BK483.out 2).trans rfl⟩ (fun hHeld => ?_)
            clear hK K
            refine norm_ (a' := ?_) ?_ ?_
            rotate_left
            ·show Act.put _ (some 50) _ = _
             simp only [Act.put, List.setIfInBounds_toArray, List.set_cons_zero, List.set_cons_succ, i64_w, i32_w]
             rfl
            exact norm_ (by simp only [putAll, Act.put, List.setIfInBounds_toArray, List.set_cons_zero, List.set_cons_succ]) (hCont (v501, v504, v507) _ ⟨hHeld, (by (with_reducible repeat (first | apply Kd.R_alloc | apply Kd.R_drewN | apply Kd.R_drew)); exact Kd.R_mono HO495.out (fun _ hk => ⟨hk.1.1.2, ⟨hk.1.2, ⟨hk.2, hk.1.1.1⟩⟩⟩)), (by (with_reducible repeat (first | apply Kd.R_alloc | apply Kd.R_drewN | apply Kd.R_drew)); exact Kd.R_mono HO498.out (fun _ hk => ⟨hk.1.1.2, ⟨hk.1.2, ⟨hk.2, hk.1.1.1⟩⟩⟩)), (by (with_reducible repeat (first | apply Kd.R_alloc | apply Kd.R_drewN | apply Kd.R_drew)); exact Kd.R_mono HO505.out (fun _ hk => ⟨hk.1.2.1, ⟨hk.1.2.2, ⟨hk.2, hk.1.1⟩⟩⟩)), (by (with_reducible repeat (first | apply Kd.R_alloc | apply Kd.R_drewN | apply Kd.R_drew)); exact Kd.R_mono HO508.out (fun _ hk => ⟨hk.1.1.2, ⟨hk.1.2, ⟨hk.2, hk.1.1.1.2⟩⟩⟩)), (by (with_reducible repeat (first | apply Kd.R_alloc | apply Kd.R_drewN | apply Kd.R_drew)); exact Kd.R_mono HO_4.out (fun _ hk => ⟨hk.1.1.1, ⟨hk.1.1.2, ⟨hk.1.2, hk.2⟩⟩⟩)), (rk HO_484000), (rk HO_484001), (rk HO_484002), (bk BK483), (bw HB)⟩)
           ·skip
            refine Kd.R_lit_step k86 _ 86 ?hg (N := 50) ?hd (xs := ([(⟨7, 0⟩ : S86)] : List (S86))) (inner := [.int .i64 7, .int .i64 0]) (ok := fun _ => True) (okp := fun _ => True) ?hr ?hp (fun _ hk => hk) trivial (Below.refl _ _) (Nat.le_refl _) (by simp) ?_; (case hd => rfl); (case hg => rfl); (case hr => first | (go_simp; done) | (go_simp; rfl)); (case hp => exact (Reps.c2 (show Kd.M k86 _ _ _ (⟨7, 0⟩ : S86) [.int .i64 7, .int .i64 0] from (k86_mkM _ _ _ (⟨7, 0⟩ : S86) )) (Reps.none _ _)))
            intro v507 w53 ho54 hb hg_ hnew_
            clear hg_ hnew_
            (first | rw [← Ny506.out] at ho54 | (simp only [Int.reduceToNat] at ho54; rw [← Ny506.out] at ho54))
            have n0_ := Aside0.mk (Kd.R_elder' (rk HO_4) (Kd.R_base ho54) hb)
            have n1_ := Aside0.mk (Kd.R_below (rk HO_484000) hb)
            have n2_ := Aside0.mk (Kd.R_below (rk HO_484001) hb)
            have n3_ := Aside0.mk (Kd.R_below (rk HO_484002) hb)
            have n4_ := Aside0.mk (Kd.R_elder' (rk HO495) (Kd.R_base ho54) hb)
            have n5_ := Aside0.mk (Kd.R_elder' (rk HO498) (Kd.R_base ho54) hb)
            have n6_ := Aside0.mk (Kd.R_elder' (rk HO502) (Kd.R_base ho54) hb)
            have n7_ := Aside0.mk (Kd.R_lower (Kd.R_new' (Kd.R_new' (Kd.R_new' (Kd.R_new' ho54 (Kd.R_lt (rk HO_4))) (Kd.R_lt (rk HO495))) (Kd.R_lt (rk HO498))) (Kd.R_lt (rk HO502))) (below_size (bw HB)))
            have n8_ := bb BK483 hb
            have n9_ := bs HB hb
            clear HO_4
            clear HO_484000
            clear HO_484001
            clear HO_484002
            clear HO495
            clear HO498
            clear HO502
            clear BK483
            clear HB
            have HO_4 := n0_
            have HO_484000 := n1_
            have HO_484001 := n2_
            have HO_484002 := n3_
            have HO495 := n4_
            have HO498 := n5_
            have HO502 := n6_
            have HO508 := n7_
            have BK483 := n8_
            have HB := n9_
            clear n0_ n1_ n2_ n3_ n4_ n5_ n6_ n7_ n8_ n9_
            clear hb ho54
            refine hK.out _ _ ⟨(blk_cell BK483.out 0).trans rfl, (blk_cell BK483.out 1).trans rfl, (blk_cell BK483.out 2).trans rfl⟩ (fun hHeld => ?_)
            clear hK K
            refine norm_ (a' := ?_) ?_ ?_
            rotate_left
            ·show Act.put _ (some 50) _ = _
             simp only [Act.put, List.setIfInBounds_toArray, List.set_cons_zero, List.set_cons_succ, i64_w, i32_w]
             rfl
            refine one_ (i := 3) (N := some 48) #[true, true, true, true, true, true, false, false, false] rfl rfl (one_of HT_.out (by kernel_rfl)) (by decide) (fun K hK => ?_)
            refine Kd.R_append_rows_step k86 (w0 := w) w.heap.size (by rfl) (.tmp 46) (.tmp 47) 68 86 (.agg #[(.int .i64 0), (.int .i64 0)]) 16 rfl Tryd.underlying68 info86 rfl (by decide) (by omega) v501 y500 t480 _ _ _ (fun k_ => some k_ ≠ (.slice Ao13 t480.length co13 : Value).ownBlock ∧ some k_ ≠ (.slice Ao47 y493.length co47 : Value).ownBlock ∧ some k_ ≠ (.slice Ao48 y496.length co48 : Value).ownBlock ∧ some k_ ≠ (v507 : Value).ownBlock) (fun _ => False) rfl rfl ?aO ?aR (fun _ _ h => h) (fun _ h => h.elim) ?aF ?aB ?aS ?aL ?_
            (case aR => repeat (first | exact (Kd.R_reads' HO_4.out).2.2 | (with_reducible refine Kd.C_alloc ?_ _) | (with_reducible refine Kd.C_drewN ?_ _) | (with_reducible refine Kd.C_drew ?_)))
            (case aB => exact (bw HB))
            (case aF => exact (fun k_ hk => ⟨Kd.fresh' (Kd.R_lt (rk HO_4)) k_ hk, Kd.fresh' (Kd.R_lt (rk HO495)) k_ hk, Kd.fresh' (Kd.R_lt (rk HO498)) k_ hk, Kd.fresh' (Kd.R_lt (rk HO508)) k_ hk⟩))
            (case aO => exact (by (with_reducible repeat (first | apply Kd.R_alloc | apply Kd.R_drewN | apply Kd.R_drew)); exact Kd.R_mono HO502.out (fun _ hk => ⟨hk.1.1.1.2, ⟨hk.1.1.2, ⟨hk.1.2, hk.2⟩⟩⟩)))
            (case aS => exact (below_size (bw HB)))
            (case aL => have := LMc31.out; omega)
            intro v504 w55 ho hb hg hat
            rw [← Ny503.out] at ho
            have n0_ := Aside0.mk (Kd.R_after (ok := (fun k_ => some k_ ≠ (.slice Ao47 y493.length co47 : Value).ownBlock ∧ some k_ ≠ (.slice Ao48 y496.length co48 : Value).ownBlock ∧ some k_ ≠ (v507 : Value).ownBlock)) (by (with_reducible repeat (first | apply Kd.R_alloc | apply Kd.R_drewN | apply Kd.R_drew)); exact Kd.R_mono HO_4.out (fun _ hk => ⟨⟨hk.1.1.1, ⟨hk.1.1.2, hk.2⟩⟩, hk.1.2⟩)) hg hat)
            have n1_ := Aside0.mk (Kd.R_over' (rk HO_484000) (Kd.R_typed (rk HO502)) (by decide) hg)
            have n2_ := Aside0.mk (Kd.R_over' (rk HO_484001) (Kd.R_typed (rk HO502)) (by decide) hg)
            have n3_ := Aside0.mk (Kd.R_over' (rk HO_484002) (Kd.R_typed (rk HO502)) (by decide) hg)
            have n4_ := Aside0.mk (blk_grown (bk BK483) hg (Kd.R_ne HO502.out BK483.out (by decide)))
            have n5_ := Aside0.mk (Kd.R_after (ok := (fun k_ => some k_ ≠ (.slice Ao13 t480.length co13 : Value).ownBlock ∧ some k_ ≠ (.slice Ao48 y496.length co48 : Value).ownBlock ∧ some k_ ≠ (v507 : Value).ownBlock)) (by (with_reducible repeat (first | apply Kd.R_alloc | apply Kd.R_drewN | apply Kd.R_drew)); exact Kd.R_mono HO495.out (fun _ hk => ⟨⟨hk.1.1.1, ⟨hk.1.1.2, hk.2⟩⟩, hk.1.2⟩)) hg hat)
            have n6_ := Aside0.mk (Kd.R_after (ok := (fun k_ => some k_ ≠ (.slice Ao13 t480.length co13 : Value).ownBlock ∧ some k_ ≠ (.slice Ao47 y493.length co47 : Value).ownBlock ∧ some k_ ≠ (v507 : Value).ownBlock)) (by (with_reducible repeat (first | apply Kd.R_alloc | apply Kd.R_drewN | apply Kd.R_drew)); exact Kd.R_mono HO498.out (fun _ hk => ⟨⟨hk.1.1.1, ⟨hk.1.1.2, hk.2⟩⟩, hk.1.2⟩)) hg hat)
            have n7_ := Aside0.mk (Kd.R_after (ok := (fun k_ => some k_ ≠ (.slice Ao13 t480.length co13 : Value).ownBlock ∧ some k_ ≠ (.slice Ao47 y493.length co47 : Value).ownBlock ∧ some k_ ≠ (.slice Ao48 y496.length co48 : Value).ownBlock)) (by (with_reducible repeat (first | apply Kd.R_alloc | apply Kd.R_drewN | apply Kd.R_drew)); exact Kd.R_mono HO508.out (fun _ hk => ⟨⟨hk.1.1.1.2, ⟨hk.1.1.2, hk.1.2⟩⟩, hk.2⟩)) hg hat)
            have n8_ := Aside0.mk (hb)
            have n9_ := Aside0.mk (ho)
            clear HO_4
            clear HO_484000
            clear HO_484001
            clear HO_484002
            clear BK483
            clear HO495
            clear HO498
            clear HO508
            clear HB
            clear HO502
            have HO_4 := n0_
            have HO_484000 := n1_
            have HO_484001 := n2_
            have HO_484002 := n3_
            have BK483 := n4_
            have HO495 := n5_
            have HO498 := n6_
            have HO508 := n7_
            have HB := n8_
            have HO505 := n9_
            clear n0_ n1_ n2_ n3_ n4_ n5_ n6_ n7_ n8_ n9_
            clear ho hb hg hat
            refine hK.out _ _ ⟨(blk_cell BK483.out 0).trans rfl, (blk_cell BK483.out 1).trans rfl, (blk_cell BK483.out 2).trans rfl⟩ (fun hHeld => ?_)
            clear hK K
            refine norm_ (a' := ?_) ?_ ?_
            rotate_left
            ·show Act.put _ (some 48) _ = _
             simp only [Act.put, List.setIfInBounds_toArray, List.set_cons_zero, List.set_cons_succ, i64_w, i32_w]
             rfl
            exact norm_ (by simp only [putAll, Act.put, List.setIfInBounds_toArray, List.set_cons_zero, List.set_cons_succ]) (hCont (v501, v504, v507) _ ⟨hHeld, (by (with_reducible repeat (first | apply Kd.R_alloc | apply Kd.R_drewN | apply Kd.R_drew)); exact Kd.R_mono HO495.out (fun _ hk => ⟨hk.1.2.1, ⟨hk.2, ⟨hk.1.2.2, hk.1.1⟩⟩⟩)), (by (with_reducible repeat (first | apply Kd.R_alloc | apply Kd.R_drewN | apply Kd.R_drew)); exact Kd.R_mono HO498.out (fun _ hk => ⟨hk.1.2.1, ⟨hk.2, ⟨hk.1.2.2, hk.1.1⟩⟩⟩)), (by (with_reducible repeat (first | apply Kd.R_alloc | apply Kd.R_drewN | apply Kd.R_drew)); exact Kd.R_mono HO505.out (fun _ hk => ⟨hk.2.1, ⟨hk.2.2.1, ⟨hk.2.2.2, hk.1⟩⟩⟩)), (by (with_reducible repeat (first | apply Kd.R_alloc | apply Kd.R_drewN | apply Kd.R_drew)); exact Kd.R_mono HO508.out (fun _ hk => ⟨hk.1.2.1, ⟨hk.1.2.2, ⟨hk.2, hk.1.1⟩⟩⟩)), (by (with_reducible repeat (first | apply Kd.R_alloc | apply Kd.R_drewN | apply Kd.R_drew)); exact Kd.R_mono HO_4.out (fun _ hk => ⟨hk.1.1, ⟨hk.1.2.1, ⟨hk.2, hk.1.2.2⟩⟩⟩)), (rk HO_484000), (rk HO_484001), (rk HO_484002), (bk BK483), (bw HB)⟩)
          ·skip
           refine Kd.R_lit_step k86 _ 86 ?hg (N := 50) ?hd (xs := ([(⟨7, 0⟩ : S86)] : List (S86))) (inner := [.int .i64 7, .int .i64 0]) (ok := fun _ => True) (okp := fun _ => True) ?hr ?hp (fun _ hk => hk) trivial (Below.refl _ _) (Nat.le_refl _) (by simp) ?_; (case hd => rfl); (case hg => rfl); (case hr => first | (go_simp; done) | (go_simp; rfl)); (case hp => exact (Reps.c2 (show Kd.M k86 _ _ _ (⟨7, 0⟩ : S86) [.int .i64 7, .int .i64 0] from (k86_mkM _ _ _ (⟨7, 0⟩ : S86) )) (Reps.none _ _)))
           intro v507 w51 ho52 hb hg_ hnew_
           clear hg_ hnew_
           (first | rw [← Ny506.out] at ho52 | (simp only [Int.reduceToNat] at ho52; rw [← Ny506.out] at ho52))
           have n0_ := Aside0.mk (Kd.R_elder' (rk HO_4) (Kd.R_base ho52) hb)
           have n1_ := Aside0.mk (Kd.R_below (rk HO_484000) hb)
           have n2_ := Aside0.mk (Kd.R_below (rk HO_484001) hb)
           have n3_ := Aside0.mk (Kd.R_below (rk HO_484002) hb)
           have n4_ := Aside0.mk (Kd.R_elder' (rk HO495) (Kd.R_base ho52) hb)
           have n5_ := Aside0.mk (Kd.R_elder' (rk HO498) (Kd.R_base ho52) hb)
           have n6_ := Aside0.mk (Kd.R_lower (Kd.R_new' (Kd.R_new' (Kd.R_new' ho52 (Kd.R_lt (rk HO_4))) (Kd.R_lt (rk HO495))) (Kd.R_lt (rk HO498))) (below_size (bw HB)))
           have n7_ := bb BK483 hb
           have n8_ := bs HB hb
           clear HO_4
           clear HO_484000
           clear HO_484001
           clear HO_484002
           clear HO495
           clear HO498
           clear BK483
           clear HB
           have HO_4 := n0_
           have HO_484000 := n1_
           have HO_484001 := n2_
           have HO_484002 := n3_
           have HO495 := n4_
           have HO498 := n5_
           have HO508 := n6_
           have BK483 := n7_
           have HB := n8_
           clear n0_ n1_ n2_ n3_ n4_ n5_ n6_ n7_ n8_
           clear hb ho52
           refine hK.out _ _ ⟨(blk_cell BK483.out 0).trans rfl, (blk_cell BK483.out 1).trans rfl, (blk_cell BK483.out 2).trans rfl⟩ (fun hHeld => ?_)
           clear hK K
           refine norm_ (a' := ?_) ?_ ?_
           rotate_left
           ·show Act.put _ (some 50) _ = _
            simp only [Act.put, List.setIfInBounds_toArray, List.set_cons_zero, List.set_cons_succ, i64_w, i32_w]
            rfl
           refine one_ (i := 1) (N := some 46) #[true, true, true, false, true, true, false, false, false] rfl rfl (one_of HT_.out (by kernel_rfl)) (by decide) (fun K hK => ?_)
           refine Kd.R_lit_step k86 _ 86 ?hg (N := 46) ?hd (xs := ([] : List (S86))) (inner := []) (ok := fun _ => True) (okp := fun _ => True) ?hr ?hp (fun _ hk => hk) trivial (Below.refl _ _) (Nat.le_refl _) (by simp) ?_; (case hd => rfl); (case hg => rfl); (case hr => first | (go_simp; done) | (go_simp; rfl)); (case hp => exact (Reps.none _ _))
           intro v501 w53 ho54 hb hg_ hnew_
           clear hg_ hnew_
           (first | rw [← Ny500.out] at ho54 | (simp only [Int.reduceToNat] at ho54; rw [← Ny500.out] at ho54))
           have n0_ := Aside0.mk (Kd.R_elder' (rk HO_4) (Kd.R_base ho54) hb)
           have n1_ := Aside0.mk (Kd.R_below (rk HO_484000) hb)
           have n2_ := Aside0.mk (Kd.R_below (rk HO_484001) hb)
           have n3_ := Aside0.mk (Kd.R_below (rk HO_484002) hb)
           have n4_ := Aside0.mk (Kd.R_elder' (rk HO495) (Kd.R_base ho54) hb)
           have n5_ := Aside0.mk (Kd.R_elder' (rk HO498) (Kd.R_base ho54) hb)
           have n6_ := Aside0.mk (Kd.R_elder' (rk HO508) (Kd.R_base ho54) hb)
           have n7_ := Aside0.mk (Kd.R_lower (Kd.R_new' (Kd.R_new' (Kd.R_new' (Kd.R_new' ho54 (Kd.R_lt (rk HO_4))) (Kd.R_lt (rk HO495))) (Kd.R_lt (rk HO498))) (Kd.R_lt (rk HO508))) (below_size (bw HB)))
           have n8_ := bb BK483 hb
           have n9_ := bs HB hb
           clear HO_4
           clear HO_484000
           clear HO_484001
           clear HO_484002
           clear HO495
           clear HO498
           clear HO508
           clear BK483
           clear HB
           have HO_4 := n0_
           have HO_484000 := n1_
           have HO_484001 := n2_
           have HO_484002 := n3_
           have HO495 := n4_
           have HO498 := n5_
           have HO508 := n6_
           have HO502 := n7_
           have BK483 := n8_
           have HB := n9_
           clear n0_ n1_ n2_ n3_ n4_ n5_ n6_ n7_ n8_ n9_
           clear hb ho54
           refine hK.out _ _ ⟨(blk_cell BK483.out 0).trans rfl, (blk_cell BK483.out 1).trans rfl, (blk_cell BK483.out 2).trans rfl⟩ (fun hHeld => ?_)
           clear hK K
           refine norm_ (a' := ?_) ?_ ?_
           rotate_left
           ·show Act.put _ (some 46) _ = _
            simp only [Act.put, List.setIfInBounds_toArray, List.set_cons_zero, List.set_cons_succ, i64_w, i32_w]
            rfl
           refine one_ (i := 3) (N := some 48) #[true, true, true, true, true, true, false, false, false] rfl rfl (one_of HT_.out (by kernel_rfl)) (by decide) (fun K hK => ?_)
           refine Kd.R_append_rows_step k86 (w0 := w) w.heap.size (by rfl) (.tmp 46) (.tmp 47) 68 86 (.agg #[(.int .i64 0), (.int .i64 0)]) 16 rfl Tryd.underlying68 info86 rfl (by decide) (by omega) v501 y500 t480 _ _ _ (fun k_ => some k_ ≠ (.slice Ao13 t480.length co13 : Value).ownBlock ∧ some k_ ≠ (.slice Ao47 y493.length co47 : Value).ownBlock ∧ some k_ ≠ (.slice Ao48 y496.length co48 : Value).ownBlock ∧ some k_ ≠ (v507 : Value).ownBlock) (fun _ => False) rfl rfl ?aO ?aR (fun _ _ h => h) (fun _ h => h.elim) ?aF ?aB ?aS ?aL ?_
           (case aR => repeat (first | exact (Kd.R_reads' HO_4.out).2.2 | (with_reducible refine Kd.C_alloc ?_ _) | (with_reducible refine Kd.C_drewN ?_ _) | (with_reducible refine Kd.C_drew ?_)))
           (case aB => exact (bw HB))
           (case aF => exact (fun k_ hk => ⟨Kd.fresh' (Kd.R_lt (rk HO_4)) k_ hk, Kd.fresh' (Kd.R_lt (rk HO495)) k_ hk, Kd.fresh' (Kd.R_lt (rk HO498)) k_ hk, Kd.fresh' (Kd.R_lt (rk HO508)) k_ hk⟩))
           (case aO => exact (by (with_reducible repeat (first | apply Kd.R_alloc | apply Kd.R_drewN | apply Kd.R_drew)); exact Kd.R_mono HO502.out (fun _ hk => ⟨hk.1.1.1.2, ⟨hk.1.1.2, ⟨hk.1.2, hk.2⟩⟩⟩)))
           (case aS => exact (below_size (bw HB)))
           (case aL => have := LMc31.out; omega)
           intro v504 w55 ho hb hg hat
           rw [← Ny503.out] at ho
           have n0_ := Aside0.mk (Kd.R_after (ok := (fun k_ => some k_ ≠ (.slice Ao47 y493.length co47 : Value).ownBlock ∧ some k_ ≠ (.slice Ao48 y496.length co48 : Value).ownBlock ∧ some k_ ≠ (v507 : Value).ownBlock)) (by (with_reducible repeat (first | apply Kd.R_alloc | apply Kd.R_drewN | apply Kd.R_drew)); exact Kd.R_mono HO_4.out (fun _ hk => ⟨⟨hk.1.1.1, ⟨hk.1.1.2, hk.1.2⟩⟩, hk.2⟩)) hg hat)
           have n1_ := Aside0.mk (Kd.R_over' (rk HO_484000) (Kd.R_typed (rk HO502)) (by decide) hg)
           have n2_ := Aside0.mk (Kd.R_over' (rk HO_484001) (Kd.R_typed (rk HO502)) (by decide) hg)
           have n3_ := Aside0.mk (Kd.R_over' (rk HO_484002) (Kd.R_typed (rk HO502)) (by decide) hg)
           have n4_ := Aside0.mk (blk_grown (bk BK483) hg (Kd.R_ne HO502.out BK483.out (by decide)))
           have n5_ := Aside0.mk (Kd.R_after (ok := (fun k_ => some k_ ≠ (.slice Ao13 t480.length co13 : Value).ownBlock ∧ some k_ ≠ (.slice Ao48 y496.length co48 : Value).ownBlock ∧ some k_ ≠ (v507 : Value).ownBlock)) (by (with_reducible repeat (first | apply Kd.R_alloc | apply Kd.R_drewN | apply Kd.R_drew)); exact Kd.R_mono HO495.out (fun _ hk => ⟨⟨hk.1.1.1, ⟨hk.1.1.2, hk.1.2⟩⟩, hk.2⟩)) hg hat)
           have n6_ := Aside0.mk (Kd.R_after (ok := (fun k_ => some k_ ≠ (.slice Ao13 t480.length co13 : Value).ownBlock ∧ some k_ ≠ (.slice Ao47 y493.length co47 : Value).ownBlock ∧ some k_ ≠ (v507 : Value).ownBlock)) (by (with_reducible repeat (first | apply Kd.R_alloc | apply Kd.R_drewN | apply Kd.R_drew)); exact Kd.R_mono HO498.out (fun _ hk => ⟨⟨hk.1.1.1, ⟨hk.1.1.2, hk.1.2⟩⟩, hk.2⟩)) hg hat)
           have n7_ := Aside0.mk (Kd.R_after (ok := (fun k_ => some k_ ≠ (.slice Ao13 t480.length co13 : Value).ownBlock ∧ some k_ ≠ (.slice Ao47 y493.length co47 : Value).ownBlock ∧ some k_ ≠ (.slice Ao48 y496.length co48 : Value).ownBlock)) (by (with_reducible repeat (first | apply Kd.R_alloc | apply Kd.R_drewN | apply Kd.R_drew)); exact Kd.R_mono HO508.out (fun _ hk => ⟨⟨hk.1.1.1.2, ⟨hk.1.1.2, hk.1.2⟩⟩, hk.2⟩)) hg hat)
           have n8_ := Aside0.mk (hb)
           have n9_ := Aside0.mk (ho)
           clear HO_4
           clear HO_484000
           clear HO_484001
           clear HO_484002
           clear BK483
           clear HO495
           clear HO498
           clear HO508
           clear HB
           clear HO502
           have HO_4 := n0_
           have HO_484000 := n1_
           have HO_484001 := n2_
           have HO_484002 := n3_
           have BK483 := n4_
           have HO495 := n5_
           have HO498 := n6_
           have HO508 := n7_
           have HB := n8_
           have HO505 := n9_
           clear n0_ n1_ n2_ n3_ n4_ n5_ n6_ n7_ n8_ n9_
           clear ho hb hg hat
           refine hK.out _ _ ⟨(blk_cell BK483.out 0).trans rfl, (blk_cell BK483.out 1).trans rfl, (blk_cell BK483.out 2).trans rfl⟩ (fun hHeld => ?_)
           clear hK K
           refine norm_ (a' := ?_) ?_ ?_
           rotate_left
           ·show Act.put _ (some 48) _ = _
            simp only [Act.put, List.setIfInBounds_toArray, List.set_cons_zero, List.set_cons_succ, i64_w, i32_w]
            rfl
           exact norm_ (by simp only [putAll, Act.put, List.setIfInBounds_toArray, List.set_cons_zero, List.set_cons_succ]) (hCont (v501, v504, v507) _ ⟨hHeld, (by (with_reducible repeat (first | apply Kd.R_alloc | apply Kd.R_drewN | apply Kd.R_drew)); exact Kd.R_mono HO495.out (fun _ hk => ⟨hk.1.2.1, ⟨hk.2, ⟨hk.1.2.2, hk.1.1⟩⟩⟩)), (by (with_reducible repeat (first | apply Kd.R_alloc | apply Kd.R_drewN | apply Kd.R_drew)); exact Kd.R_mono HO498.out (fun _ hk => ⟨hk.1.2.1, ⟨hk.2, ⟨hk.1.2.2, hk.1.1⟩⟩⟩)), (by (with_reducible repeat (first | apply Kd.R_alloc | apply Kd.R_drewN | apply Kd.R_drew)); exact Kd.R_mono HO505.out (fun _ hk => ⟨hk.2.1, ⟨hk.2.2.1, ⟨hk.2.2.2, hk.1⟩⟩⟩)), (by (with_reducible repeat (first | apply Kd.R_alloc | apply Kd.R_drewN | apply Kd.R_drew)); exact Kd.R_mono HO508.out (fun _ hk => ⟨hk.1.2.1, ⟨hk.1.2.2, ⟨hk.2, hk.1.1⟩⟩⟩)), (by (with_reducible repeat (first | apply Kd.R_alloc | apply Kd.R_drewN | apply Kd.R_drew)); exact Kd.R_mono HO_4.out (fun _ hk => ⟨hk.1.1, ⟨hk.1.2.1, ⟨hk.2, hk.1.2.2⟩⟩⟩)), (rk HO_484000), (rk HO_484001), (rk HO_484002), (bk BK483), (bw HB)⟩)
         rintro ⟨v501, v504, v507⟩ w56 ⟨hS_, h0_, h1_, h2_, h3_, h4_, h5_, h6_, h7_, h8_, h9_⟩
         have n0_ : Aside0 (Kd.R k86 86 w56 w.heap.size (fun k_ => some k_ ≠ (.slice Ao48 y496.length co48 : Value).ownBlock ∧ some k_ ≠ (v504 : Value).ownBlock ∧ some k_ ≠ (v507 : Value).ownBlock ∧ some k_ ≠ (.slice Ao13 t480.length co13 : Value).ownBlock) (.slice Ao47 y493.length co47) y493) := ⟨h0_⟩
         have n1_ : Aside0 (Kd.R k86 86 w56 w.heap.size (fun k_ => some k_ ≠ (.slice Ao47 y493.length co47 : Value).ownBlock ∧ some k_ ≠ (v504 : Value).ownBlock ∧ some k_ ≠ (v507 : Value).ownBlock ∧ some k_ ≠ (.slice Ao13 t480.length co13 : Value).ownBlock) (.slice Ao48 y496.length co48) y496) := ⟨h1_⟩
         have n2_ : Aside0 (Kd.R k86 86 w56 w.heap.size (fun k_ => some k_ ≠ (.slice Ao47 y493.length co47 : Value).ownBlock ∧ some k_ ≠ (.slice Ao48 y496.length co48 : Value).ownBlock ∧ some k_ ≠ (v507 : Value).ownBlock ∧ some k_ ≠ (.slice Ao13 t480.length co13 : Value).ownBlock) v504 y503) := ⟨h2_⟩
         have n3_ : Aside0 (Kd.R k86 86 w56 w.heap.size (fun k_ => some k_ ≠ (.slice Ao47 y493.length co47 : Value).ownBlock ∧ some k_ ≠ (.slice Ao48 y496.length co48 : Value).ownBlock ∧ some k_ ≠ (v504 : Value).ownBlock ∧ some k_ ≠ (.slice Ao13 t480.length co13 : Value).ownBlock) v507 y506) := ⟨h3_⟩
         have n4_ : Aside0 (Kd.R k86 86 w56 w.heap.size (fun k_ => some k_ ≠ (.slice Ao47 y493.length co47 : Value).ownBlock ∧ some k_ ≠ (.slice Ao48 y496.length co48 : Value).ownBlock ∧ some k_ ≠ (v504 : Value).ownBlock ∧ some k_ ≠ (v507 : Value).ownBlock) (.slice Ao13 t480.length co13) t480) := ⟨h4_⟩
         have n5_ : Aside0 (Kd.R Kd.string 9 w56 w.heap.size (fun k_ => some k_ ≠ (.slice Ao11 t474.length co11 : Value).ownBlock) (.slice Ao9 t471.length co9) t471) := ⟨h5_⟩
         have n6_ : Aside0 (Kd.R Kd.string 9 w56 w.heap.size (fun k_ => some k_ ≠ (.slice Ao9 t471.length co9 : Value).ownBlock) (.slice Ao11 t474.length co11) t474) := ⟨h6_⟩
         have n7_ : Aside0 (Kd.R k91 91 w56 w.heap.size (fun _ => True) (.slice Ao12 t477.length co12) t477) := ⟨h7_⟩
         have n8_ : Aside0 (w56.heap[gb483]? = some (.cells #[.slice Ao9 t471.length co9, .slice Ao11 t474.length co11, .slice Ao12 t477.length co12] 30 (0, 0))) := ⟨h8_⟩
         have n9_ : Aside0 (Below w.heap.size w w56) := ⟨h9_⟩
         clear HO_4
         clear HO_484000
         clear HO_484001
         clear HO_484002
         clear HO495
         clear HO498
         clear BK483
         clear HB
         clear h0_ h1_ h2_ h3_ h4_ h5_ h6_ h7_ h8_ h9_
         have HO495 := n0_
         have HO498 := n1_
         have HO505 := n2_
         have HO508 := n3_
         have HO_4 := n4_
         have HO_484000 := n5_
         have HO_484001 := n6_
         have HO_484002 := n7_
         have BK483 := n8_
         have HB := n9_
         clear n0_ n1_ n2_ n3_ n4_ n5_ n6_ n7_ n8_ n9_
         have hHeld : w56.cell? ⟨gb483, 0, none⟩ = some (.slice Ao9 t471.length co9) ∧ w56.cell? ⟨gb483, 1, none⟩ = some (.slice Ao11 t474.length co11) ∧ w56.cell? ⟨gb483, 2, none⟩ = some (.slice Ao12 t477.length co12) := hS_
         obtain ⟨Ao58, co58, eo58⟩ := Kd.R_slice HO508.out
         (first | subst eo58 | (injection eo58 with f1_ f2_ f3_; have f4_ := f1_.symm; have f5_ := f3_.symm; clear f1_ f2_ f3_; subst f4_; subst f5_))
         refine norm_ (a' := ?_) ?_ ?_
         rotate_left
         ·simp only [putAll, Act.put, List.setIfInBounds_toArray, List.set_cons_zero, List.set_cons_succ]
          rfl
         refine one_ (i := 6) (N := some 51) #[true, true, true, true, true, true, true, false, false] rfl rfl (one_of HT_.out (by kernel_rfl)) (by decide) (fun K hK => ?_)
         refine Kd.R_append_rows_step k86 (w0 := w) w.heap.size (by rfl) (.tmp 48) (.tmp 50) 68 86 (.agg #[(.int .i64 0), (.int .i64 0)]) 16 rfl Tryd.underlying68 info86 rfl (by decide) (by omega) v504 y503 y506 _ _ _ (fun k_ => some k_ ≠ (.slice Ao13 t480.length co13 : Value).ownBlock ∧ some k_ ≠ (.slice Ao47 y493.length co47 : Value).ownBlock ∧ some k_ ≠ (.slice Ao48 y496.length co48 : Value).ownBlock ∧ some k_ ≠ (.slice Ao58 y506.length co58 : Value).ownBlock) (fun _ => False) rfl rfl ?aO ?aR (fun _ _ h => h) (fun _ h => h.elim) ?aF ?aB ?aS ?aL ?_
         (case aR => repeat (first | exact (Kd.R_reads' HO508.out).2.2 | (with_reducible refine Kd.C_alloc ?_ _) | (with_reducible refine Kd.C_drewN ?_ _) | (with_reducible refine Kd.C_drew ?_)))
         (case aB => exact (bw HB))
         (case aF => exact (fun k_ hk => ⟨Kd.fresh' (Kd.R_lt (rk HO_4)) k_ hk, Kd.fresh' (Kd.R_lt (rk HO495)) k_ hk, Kd.fresh' (Kd.R_lt (rk HO498)) k_ hk, Kd.fresh' (Kd.R_lt (rk HO508)) k_ hk⟩))
         (case aO => exact (by (with_reducible repeat (first | apply Kd.R_alloc | apply Kd.R_drewN | apply Kd.R_drew)); exact Kd.R_mono HO505.out (fun _ hk => ⟨hk.2.2.2, ⟨hk.1, ⟨hk.2.1, hk.2.2.1⟩⟩⟩)))
         (case aS => exact (below_size (bw HB)))
         (case aL => have := LMc32.out; omega)
         intro v510 w57 ho hb hg hat
         rw [← Ny509.out] at ho
         have n0_ := Aside0.mk (Kd.R_after (ok := (fun k_ => some k_ ≠ (.slice Ao47 y493.length co47 : Value).ownBlock ∧ some k_ ≠ (.slice Ao48 y496.length co48 : Value).ownBlock ∧ some k_ ≠ (.slice Ao58 y506.length co58 : Value).ownBlock)) (by (with_reducible repeat (first | apply Kd.R_alloc | apply Kd.R_drewN | apply Kd.R_drew)); exact Kd.R_mono HO_4.out (fun _ hk => ⟨⟨hk.1, ⟨hk.2.1, hk.2.2.2⟩⟩, hk.2.2.1⟩)) hg hat)
         have n1_ := Aside0.mk (Kd.R_over' (rk HO_484000) (Kd.R_typed (rk HO505)) (by decide) hg)
         have n2_ := Aside0.mk (Kd.R_over' (rk HO_484001) (Kd.R_typed (rk HO505)) (by decide) hg)
         have n3_ := Aside0.mk (Kd.R_over' (rk HO_484002) (Kd.R_typed (rk HO505)) (by decide) hg)
         have n4_ := Aside0.mk (blk_grown (bk BK483) hg (Kd.R_ne HO505.out BK483.out (by decide)))
         have n5_ := Aside0.mk (Kd.R_after (ok := (fun k_ => some k_ ≠ (.slice Ao13 t480.length co13 : Value).ownBlock ∧ some k_ ≠ (.slice Ao48 y496.length co48 : Value).ownBlock ∧ some k_ ≠ (.slice Ao58 y506.length co58 : Value).ownBlock)) (by (with_reducible repeat (first | apply Kd.R_alloc | apply Kd.R_drewN | apply Kd.R_drew)); exact Kd.R_mono HO495.out (fun _ hk => ⟨⟨hk.2.2.2, ⟨hk.1, hk.2.2.1⟩⟩, hk.2.1⟩)) hg hat)
         have n6_ := Aside0.mk (Kd.R_after (ok := (fun k_ => some k_ ≠ (.slice Ao13 t480.length co13 : Value).ownBlock ∧ some k_ ≠ (.slice Ao47 y493.length co47 : Value).ownBlock ∧ some k_ ≠ (.slice Ao58 y506.length co58 : Value).ownBlock)) (by (with_reducible repeat (first | apply Kd.R_alloc | apply Kd.R_drewN | apply Kd.R_drew)); exact Kd.R_mono HO498.out (fun _ hk => ⟨⟨hk.2.2.2, ⟨hk.1, hk.2.2.1⟩⟩, hk.2.1⟩)) hg hat)
         have n7_ := Aside0.mk (Kd.R_after (ok := (fun k_ => some k_ ≠ (.slice Ao13 t480.length co13 : Value).ownBlock ∧ some k_ ≠ (.slice Ao47 y493.length co47 : Value).ownBlock ∧ some k_ ≠ (.slice Ao48 y496.length co48 : Value).ownBlock)) (by (with_reducible repeat (first | apply Kd.R_alloc | apply Kd.R_drewN | apply Kd.R_drew)); exact Kd.R_mono HO508.out (fun _ hk => ⟨⟨hk.2.2.2, ⟨hk.1, hk.2.1⟩⟩, hk.2.2.1⟩)) hg hat)
         have n8_ := Aside0.mk (hb)
         have n9_ := Aside0.mk (ho)
         clear HO_4
         clear HO_484000
         clear HO_484001
         clear HO_484002
         clear BK483
         clear HO495
         clear HO498
         clear HO508
         clear HB
         clear HO505
         have HO_4 := n0_
         have HO_484000 := n1_
         have HO_484001 := n2_
         have HO_484002 := n3_
         have BK483 := n4_
         have HO495 := n5_
         have HO498 := n6_
         have HO508 := n7_
         have HB := n8_
         have HO511 := n9_
         clear n0_ n1_ n2_ n3_ n4_ n5_ n6_ n7_ n8_ n9_
         clear ho hb hg hat
         obtain ⟨Ao59, co59, eo59⟩ := Kd.R_slice HO511.out
         (first | subst eo59 | (injection eo59 with f1_ f2_ f3_; have f4_ := f1_.symm; have f5_ := f3_.symm; clear f1_ f2_ f3_; subst f4_; subst f5_))
         refine hK.out _ _ ⟨(blk_cell BK483.out 0).trans rfl, (blk_cell BK483.out 1).trans rfl, (blk_cell BK483.out 2).trans rfl⟩ (fun hHeld => ?_)
         clear hK K
         refine norm_ (a' := ?_) ?_ ?_
         rotate_left
         ·show Act.put _ (some 51) _ = _
          simp only [Act.put, List.setIfInBounds_toArray, List.set_cons_zero, List.set_cons_succ, i64_w, i32_w]
          rfl
         refine one_ (i := 7) (N := some 52) #[true, true, true, true, true, true, true, true, false] rfl rfl (one_of HT_.out (by kernel_rfl)) (by decide) (fun K hK => ?_)
         refine goes_ Tryd.func37 (by kernel_rfl) rfl #[.agg #[.slice Ao9 t471.length co9, .slice Ao11 t474.length co11, .slice Ao12 t477.length co12], .slice Ao59 y509.length co59] (by rfl) rfl rfl (by (try simp only [List.map_toArray, List.map_cons, List.map_nil]); first | done | rfl | (simp only [List.length_drop, List.length_take]; rfl)) ?_
         with_reducible refine (impl_ExprOk.calls _ _ t471 _ _ t474 _ _ t477 _ _ y509 t512 _ ?side1 ?side2 ?side3 ?side4 ?side5 ?side6 ?side7 ?side8 A33.out).mono ?_
         (case side1 => repeat (first | exact (Kd.R_reads' HO_484000.out).2.2 | (with_reducible refine Kd.C_alloc ?_ _) | (with_reducible refine Kd.C_drewN ?_ _) | (with_reducible refine Kd.C_drew ?_)))
         (case side2 => exact (Kd.R_reads' HO_484000.out).2.1)
         (case side3 => repeat (first | exact (Kd.R_reads' HO_484001.out).2.2 | (with_reducible refine Kd.C_alloc ?_ _) | (with_reducible refine Kd.C_drewN ?_ _) | (with_reducible refine Kd.C_drew ?_)))
         (case side4 => exact (Kd.R_reads' HO_484001.out).2.1)
         (case side5 => repeat (first | exact (Kd.R_reads' HO_484002.out).2.2 | (with_reducible refine Kd.C_alloc ?_ _) | (with_reducible refine Kd.C_drewN ?_ _) | (with_reducible refine Kd.C_drew ?_)))
         (case side6 => exact (Kd.R_reads' HO_484002.out).2.1)
         (case side7 => repeat (first | exact (Kd.R_reads' HO511.out).2.2 | (with_reducible refine Kd.C_alloc ?_ _) | (with_reducible refine Kd.C_drewN ?_ _) | (with_reducible refine Kd.C_drew ?_)))
         (case side8 => exact (Kd.R_reads' HO511.out).2.1)
         rintro e w60 ⟨rfl, hb⟩
         refine ⟨_, rfl, ?_⟩
         have n0_ := Aside0.mk (Kd.R_below (rk HO_4) hb)
         have n1_ := Aside0.mk (Kd.R_below (rk HO_484000) hb)
         have n2_ := Aside0.mk (Kd.R_below (rk HO_484001) hb)
         have n3_ := Aside0.mk (Kd.R_below (rk HO_484002) hb)
         have n4_ := Aside0.mk (Kd.R_below (rk HO495) hb)
         have n5_ := Aside0.mk (Kd.R_below (rk HO498) hb)
         have n6_ := Aside0.mk (Kd.R_below (rk HO508) hb)
         have n7_ := Aside0.mk (Kd.R_below (rk HO511) hb)
         have n8_ := bb BK483 hb
         have n9_ := bs HB hb
         clear HO_4
         clear HO_484000
         clear HO_484001
         clear HO_484002
         clear HO495
         clear HO498
         clear HO508
         clear HO511
         clear BK483
         clear HB
         have HO_4 := n0_
         have HO_484000 := n1_
         have HO_484001 := n2_
         have HO_484002 := n3_
         have HO495 := n4_
         have HO498 := n5_
         have HO508 := n6_
         have HO511 := n7_
         have BK483 := n8_
         have HB := n9_
         clear n0_ n1_ n2_ n3_ n4_ n5_ n6_ n7_ n8_ n9_
         (try clear hb)
         (try clear hb2)
         (try clear hk)
         (try clear hi)
         refine hK.out _ _ ⟨(blk_cell BK483.out 0).trans rfl, (blk_cell BK483.out 1).trans rfl, (blk_cell BK483.out 2).trans rfl⟩ (fun hHeld => ?_)
         clear hK K
         refine norm_ (a' := ?_) ?_ ?_
         rotate_left
         ·show Act.put _ (some 52) _ = _
          simp only [Act.put, List.setIfInBounds_toArray, List.set_cons_zero, List.set_cons_succ, i64_w, i32_w]
          rfl
         refine pure_ (i := 8) (N := some 7) (v := ?_) (a' := ?_) #[true, true, true, true, true, true, true, true, true] rfl rfl (any_of HT_.out (by kernel_rfl)) (fun _ _ _ h => h) (Or.inl ⟨by rfl, ?_⟩) ?_ ?_
         rotate_left
         ·intro w'
          go_simp
          with_reducible rfl
         rotate_left
         ·simp only [Act.put, List.setIfInBounds_toArray, List.set_cons_zero, List.set_cons_succ, i64_w, i32_w]
          rfl
         refine done_ (done_of HT_.out (by kernel_rfl)) ?_
         have hcz61_0 : w60.cell? ⟨gb483, 0, none⟩ = some (.slice Ao9 t471.length co9) := (blk_cell BK483.out 0).trans rfl
         have hcz61_1 : w60.cell? ⟨gb483, 1, none⟩ = some (.slice Ao11 t474.length co11) := (blk_cell BK483.out 1).trans rfl
         have hcz61_2 : w60.cell? ⟨gb483, 2, none⟩ = some (.slice Ao12 t477.length co12) := (blk_cell BK483.out 2).trans rfl
         have hfz61_0 := blk_frozen BK483.out 0
         have hfz61_1 := blk_frozen BK483.out 1
         have hfz61_2 := blk_frozen BK483.out 2
         have H := HH_.out
         clear HH_
         by_cases c35 : t513 = true
         ·subst c35
          have H1 : (if t484 = 1 then (if t499 = 0 then (if t512 = 1 then (some true) else (if t484 = 2 then (if t499 = 2 then (some (t512 == 0)) else (some false)) else (some false))) else (if t484 = 2 then (if t499 = 2 then (some (t512 == 0)) else (some false)) else (some false))) else (if t484 = 2 then (if t499 = 2 then (some (t512 == 0)) else (some false)) else (some false))) = some true := by rw [if_pos rfl] at H; first | done | exact H
          clear H
          have H := H1
          clear H1
          by_cases c36 : t484 = 1
          ·rw [if_pos c36] at H
           have c36b0 : (t484 == 1) = true := beq_iff_eq.mpr c36
           have c36b1 : (t484 != 1) = false := bne_eq_false_iff_eq.mpr c36
           clear c36
           by_cases c37 : t499 = 0
           ·rw [if_pos c37] at H
            have c37b0 : (t499 == 0) = true := beq_iff_eq.mpr c37
            have c37b1 : (t499 != 0) = false := bne_eq_false_iff_eq.mpr c37
            clear c37
            by_cases c38 : t512 = 1
            ·rw [if_pos c38] at H
             have c38b0 : (t512 == 1) = true := beq_iff_eq.mpr c38
             have c38b1 : (t512 != 1) = false := bne_eq_false_iff_eq.mpr c38
             clear c38
             have HE_ := Aside0.mk (Option.some.inj H)
             clear H
             try go_wp2_with (((with_reducible refine gate_callee (f := 15) rfl ?_); refine goesL_ (some 54) rfl rfl Tryd.func15 (by kernel_rfl) rfl #[.agg #[.slice Ao9 t471.length co9, .slice Ao11 t474.length co11, .slice Ao12 t477.length co12]] rfl (by (try simp only [List.map_toArray, List.map_cons, List.map_nil]); first | done | rfl | (simp only [List.length_drop, List.length_take]; rfl)) ?_; (with_reducible refine (impl_DeclOk.calls _ _ t471 _ _ t474 _ _ t477 true _ ?side1 ?side2 ?side3 ?side4 ?side5 ?side6 A34.out).mono ?_); (case side1 => repeat (first | exact (Kd.R_reads' HO_484000.out).2.2 | (with_reducible refine Kd.C_alloc ?_ _) | (with_reducible refine Kd.C_drewN ?_ _) | (with_reducible refine Kd.C_drew ?_))); (case side2 => exact (Kd.R_reads' HO_484000.out).2.1); (case side3 => repeat (first | exact (Kd.R_reads' HO_484001.out).2.2 | (with_reducible refine Kd.C_alloc ?_ _) | (with_reducible refine Kd.C_drewN ?_ _) | (with_reducible refine Kd.C_drew ?_))); (case side4 => exact (Kd.R_reads' HO_484001.out).2.1); (case side5 => repeat (first | exact (Kd.R_reads' HO_484002.out).2.2 | (with_reducible refine Kd.C_alloc ?_ _) | (with_reducible refine Kd.C_drewN ?_ _) | (with_reducible refine Kd.C_drew ?_))); (case side6 => exact (Kd.R_reads' HO_484002.out).2.1); rintro e w62 ⟨rfl, hb⟩; refine ⟨_, rfl, ?_⟩; replace HO_4 := Aside0.mk (Kd.R_below (rk HO_4) hb); replace HO_484000 := Aside0.mk (Kd.R_below (rk HO_484000) hb); replace HO_484001 := Aside0.mk (Kd.R_below (rk HO_484001) hb); replace HO_484002 := Aside0.mk (Kd.R_below (rk HO_484002) hb); replace HO495 := Aside0.mk (Kd.R_below (rk HO495) hb); replace HO498 := Aside0.mk (Kd.R_below (rk HO498) hb); replace HO508 := Aside0.mk (Kd.R_below (rk HO508) hb); replace HO511 := Aside0.mk (Kd.R_below (rk HO511) hb); replace BK483 := bb BK483 hb; replace HB := bs HB hb; (try clear hb); (try clear hb2); (try clear hk); (try clear hi)))
             go_ret
             exact ⟨by first | rfl | exact congrArg (fun b_ => Ending.returned (Value.bool b_)) HE_.out | (refine absurd HE_.out ?_; simp [*]; done) | (have h_ := HE_.out; clear HE_; simp_all; done) | (have h_ := HE_.out; clear HE_; simp_all; omega) | (simp [errW_none, errW_some] <;> rfl) | (simp [*, errW_none, errW_some] <;> rfl), bw HB⟩
            ·rw [if_neg c38] at H
             have c38b0 : (t512 == 1) = false := beq_eq_false_iff_ne.mpr c38
             have c38b1 : (t512 != 1) = true := bne_iff_ne.mpr c38
             by_cases c63 : t484 = 2
             ·rw [if_pos c63] at H
              have c63b0 : (t484 == 2) = true := beq_iff_eq.mpr c63
              have c63b1 : (t484 != 2) = false := bne_eq_false_iff_eq.mpr c63
              clear c63
              by_cases c64 : t499 = 2
              ·rw [if_pos c64] at H
               have c64b0 : (t499 == 2) = true := beq_iff_eq.mpr c64
               have c64b1 : (t499 != 2) = false := bne_eq_false_iff_eq.mpr c64
               clear c64
               have HE_ := Aside0.mk (Option.some.inj H)
               clear H
               try go_wp2_with (((with_reducible refine gate_callee (f := 15) rfl ?_); refine goesL_ (some 54) rfl rfl Tryd.func15 (by kernel_rfl) rfl #[.agg #[.slice Ao9 t471.length co9, .slice Ao11 t474.length co11, .slice Ao12 t477.length co12]] rfl (by (try simp only [List.map_toArray, List.map_cons, List.map_nil]); first | done | rfl | (simp only [List.length_drop, List.length_take]; rfl)) ?_; (with_reducible refine (impl_DeclOk.calls _ _ t471 _ _ t474 _ _ t477 true _ ?side1 ?side2 ?side3 ?side4 ?side5 ?side6 A34.out).mono ?_); (case side1 => repeat (first | exact (Kd.R_reads' HO_484000.out).2.2 | (with_reducible refine Kd.C_alloc ?_ _) | (with_reducible refine Kd.C_drewN ?_ _) | (with_reducible refine Kd.C_drew ?_))); (case side2 => exact (Kd.R_reads' HO_484000.out).2.1); (case side3 => repeat (first | exact (Kd.R_reads' HO_484001.out).2.2 | (with_reducible refine Kd.C_alloc ?_ _) | (with_reducible refine Kd.C_drewN ?_ _) | (with_reducible refine Kd.C_drew ?_))); (case side4 => exact (Kd.R_reads' HO_484001.out).2.1); (case side5 => repeat (first | exact (Kd.R_reads' HO_484002.out).2.2 | (with_reducible refine Kd.C_alloc ?_ _) | (with_reducible refine Kd.C_drewN ?_ _) | (with_reducible refine Kd.C_drew ?_))); (case side6 => exact (Kd.R_reads' HO_484002.out).2.1); rintro e w88 ⟨rfl, hb⟩; refine ⟨_, rfl, ?_⟩; replace HO_4 := Aside0.mk (Kd.R_below (rk HO_4) hb); replace HO_484000 := Aside0.mk (Kd.R_below (rk HO_484000) hb); replace HO_484001 := Aside0.mk (Kd.R_below (rk HO_484001) hb); replace HO_484002 := Aside0.mk (Kd.R_below (rk HO_484002) hb); replace HO495 := Aside0.mk (Kd.R_below (rk HO495) hb); replace HO498 := Aside0.mk (Kd.R_below (rk HO498) hb); replace HO508 := Aside0.mk (Kd.R_below (rk HO508) hb); replace HO511 := Aside0.mk (Kd.R_below (rk HO511) hb); replace BK483 := bb BK483 hb; replace HB := bs HB hb; (try clear hb); (try clear hb2); (try clear hk); (try clear hi)))
               go_ret
               exact ⟨by first | rfl | exact congrArg (fun b_ => Ending.returned (Value.bool b_)) HE_.out | (refine absurd HE_.out ?_; simp [*]; done) | (have h_ := HE_.out; clear HE_; simp_all; done) | (have h_ := HE_.out; clear HE_; simp_all; omega) | (simp [errW_none, errW_some] <;> rfl) | (simp [*, errW_none, errW_some] <;> rfl), bw HB⟩
              ·rw [if_neg c64] at H
               have c64b0 : (t499 == 2) = false := beq_eq_false_iff_ne.mpr c64
               have c64b1 : (t499 != 2) = true := bne_iff_ne.mpr c64
               exact absurd (Option.some.inj H) (by decide)
             ·rw [if_neg c63] at H
              have c63b0 : (t484 == 2) = false := beq_eq_false_iff_ne.mpr c63
              have c63b1 : (t484 != 2) = true := bne_iff_ne.mpr c63
              exact absurd (Option.some.inj H) (by decide)
           ·rw [if_neg c37] at H
            have c37b0 : (t499 == 0) = false := beq_eq_false_iff_ne.mpr c37
            have c37b1 : (t499 != 0) = true := bne_iff_ne.mpr c37
            by_cases c89 : t484 = 2
            ·rw [if_pos c89] at H
             have c89b0 : (t484 == 2) = true := beq_iff_eq.mpr c89
             have c89b1 : (t484 != 2) = false := bne_eq_false_iff_eq.mpr c89
             clear c89
             by_cases c90 : t499 = 2
             ·rw [if_pos c90] at H
              have c90b0 : (t499 == 2) = true := beq_iff_eq.mpr c90
              have c90b1 : (t499 != 2) = false := bne_eq_false_iff_eq.mpr c90
              clear c90
              have HE_ := Aside0.mk (Option.some.inj H)
              clear H
              try go_wp2_with (((with_reducible refine gate_callee (f := 15) rfl ?_); refine goesL_ (some 54) rfl rfl Tryd.func15 (by kernel_rfl) rfl #[.agg #[.slice Ao9 t471.length co9, .slice Ao11 t474.length co11, .slice Ao12 t477.length co12]] rfl (by (try simp only [List.map_toArray, List.map_cons, List.map_nil]); first | done | rfl | (simp only [List.length_drop, List.length_take]; rfl)) ?_; (with_reducible refine (impl_DeclOk.calls _ _ t471 _ _ t474 _ _ t477 true _ ?side1 ?side2 ?side3 ?side4 ?side5 ?side6 A34.out).mono ?_); (case side1 => repeat (first | exact (Kd.R_reads' HO_484000.out).2.2 | (with_reducible refine Kd.C_alloc ?_ _) | (with_reducible refine Kd.C_drewN ?_ _) | (with_reducible refine Kd.C_drew ?_))); (case side2 => exact (Kd.R_reads' HO_484000.out).2.1); (case side3 => repeat (first | exact (Kd.R_reads' HO_484001.out).2.2 | (with_reducible refine Kd.C_alloc ?_ _) | (with_reducible refine Kd.C_drewN ?_ _) | (with_reducible refine Kd.C_drew ?_))); (case side4 => exact (Kd.R_reads' HO_484001.out).2.1); (case side5 => repeat (first | exact (Kd.R_reads' HO_484002.out).2.2 | (with_reducible refine Kd.C_alloc ?_ _) | (with_reducible refine Kd.C_drewN ?_ _) | (with_reducible refine Kd.C_drew ?_))); (case side6 => exact (Kd.R_reads' HO_484002.out).2.1); rintro e w114 ⟨rfl, hb⟩; refine ⟨_, rfl, ?_⟩; replace HO_4 := Aside0.mk (Kd.R_below (rk HO_4) hb); replace HO_484000 := Aside0.mk (Kd.R_below (rk HO_484000) hb); replace HO_484001 := Aside0.mk (Kd.R_below (rk HO_484001) hb); replace HO_484002 := Aside0.mk (Kd.R_below (rk HO_484002) hb); replace HO495 := Aside0.mk (Kd.R_below (rk HO495) hb); replace HO498 := Aside0.mk (Kd.R_below (rk HO498) hb); replace HO508 := Aside0.mk (Kd.R_below (rk HO508) hb); replace HO511 := Aside0.mk (Kd.R_below (rk HO511) hb); replace BK483 := bb BK483 hb; replace HB := bs HB hb; (try clear hb); (try clear hb2); (try clear hk); (try clear hi)))
              go_ret
              exact ⟨by first | rfl | exact congrArg (fun b_ => Ending.returned (Value.bool b_)) HE_.out | (refine absurd HE_.out ?_; simp [*]; done) | (have h_ := HE_.out; clear HE_; simp_all; done) | (have h_ := HE_.out; clear HE_; simp_all; omega) | (simp [errW_none, errW_some] <;> rfl) | (simp [*, errW_none, errW_some] <;> rfl), bw HB⟩
             ·rw [if_neg c90] at H
              have c90b0 : (t499 == 2) = false := beq_eq_false_iff_ne.mpr c90
              have c90b1 : (t499 != 2) = true := bne_iff_ne.mpr c90
              exact absurd (Option.some.inj H) (by decide)
            ·rw [if_neg c89] at H
             have c89b0 : (t484 == 2) = false := beq_eq_false_iff_ne.mpr c89
             have c89b1 : (t484 != 2) = true := bne_iff_ne.mpr c89
             exact absurd (Option.some.inj H) (by decide)
          ·rw [if_neg c36] at H
           have c36b0 : (t484 == 1) = false := beq_eq_false_iff_ne.mpr c36
           have c36b1 : (t484 != 1) = true := bne_iff_ne.mpr c36
           by_cases c115 : t484 = 2
           ·rw [if_pos c115] at H
            have c115b0 : (t484 == 2) = true := beq_iff_eq.mpr c115
            have c115b1 : (t484 != 2) = false := bne_eq_false_iff_eq.mpr c115
            clear c115
            by_cases c116 : t499 = 2
            ·rw [if_pos c116] at H
             have c116b0 : (t499 == 2) = true := beq_iff_eq.mpr c116
             have c116b1 : (t499 != 2) = false := bne_eq_false_iff_eq.mpr c116
             clear c116
             have HE_ := Aside0.mk (Option.some.inj H)
             clear H
             try go_wp2_with (((with_reducible refine gate_callee (f := 15) rfl ?_); refine goesL_ (some 54) rfl rfl Tryd.func15 (by kernel_rfl) rfl #[.agg #[.slice Ao9 t471.length co9, .slice Ao11 t474.length co11, .slice Ao12 t477.length co12]] rfl (by (try simp only [List.map_toArray, List.map_cons, List.map_nil]); first | done | rfl | (simp only [List.length_drop, List.length_take]; rfl)) ?_; (with_reducible refine (impl_DeclOk.calls _ _ t471 _ _ t474 _ _ t477 true _ ?side1 ?side2 ?side3 ?side4 ?side5 ?side6 A34.out).mono ?_); (case side1 => repeat (first | exact (Kd.R_reads' HO_484000.out).2.2 | (with_reducible refine Kd.C_alloc ?_ _) | (with_reducible refine Kd.C_drewN ?_ _) | (with_reducible refine Kd.C_drew ?_))); (case side2 => exact (Kd.R_reads' HO_484000.out).2.1); (case side3 => repeat (first | exact (Kd.R_reads' HO_484001.out).2.2 | (with_reducible refine Kd.C_alloc ?_ _) | (with_reducible refine Kd.C_drewN ?_ _) | (with_reducible refine Kd.C_drew ?_))); (case side4 => exact (Kd.R_reads' HO_484001.out).2.1); (case side5 => repeat (first | exact (Kd.R_reads' HO_484002.out).2.2 | (with_reducible refine Kd.C_alloc ?_ _) | (with_reducible refine Kd.C_drewN ?_ _) | (with_reducible refine Kd.C_drew ?_))); (case side6 => exact (Kd.R_reads' HO_484002.out).2.1); rintro e w140 ⟨rfl, hb⟩; refine ⟨_, rfl, ?_⟩; replace HO_4 := Aside0.mk (Kd.R_below (rk HO_4) hb); replace HO_484000 := Aside0.mk (Kd.R_below (rk HO_484000) hb); replace HO_484001 := Aside0.mk (Kd.R_below (rk HO_484001) hb); replace HO_484002 := Aside0.mk (Kd.R_below (rk HO_484002) hb); replace HO495 := Aside0.mk (Kd.R_below (rk HO495) hb); replace HO498 := Aside0.mk (Kd.R_below (rk HO498) hb); replace HO508 := Aside0.mk (Kd.R_below (rk HO508) hb); replace HO511 := Aside0.mk (Kd.R_below (rk HO511) hb); replace BK483 := bb BK483 hb; replace HB := bs HB hb; (try clear hb); (try clear hb2); (try clear hk); (try clear hi)))
             go_ret
             exact ⟨by first | rfl | exact congrArg (fun b_ => Ending.returned (Value.bool b_)) HE_.out | (refine absurd HE_.out ?_; simp [*]; done) | (have h_ := HE_.out; clear HE_; simp_all; done) | (have h_ := HE_.out; clear HE_; simp_all; omega) | (simp [errW_none, errW_some] <;> rfl) | (simp [*, errW_none, errW_some] <;> rfl), bw HB⟩
            ·rw [if_neg c116] at H
             have c116b0 : (t499 == 2) = false := beq_eq_false_iff_ne.mpr c116
             have c116b1 : (t499 != 2) = true := bne_iff_ne.mpr c116
             exact absurd (Option.some.inj H) (by decide)
           ·rw [if_neg c115] at H
            have c115b0 : (t484 == 2) = false := beq_eq_false_iff_ne.mpr c115
            have c115b1 : (t484 != 2) = true := bne_iff_ne.mpr c115
            exact absurd (Option.some.inj H) (by decide)
         ·replace c35 := Bool.eq_false_iff.mpr c35
          subst c35
          have H1 : (some false) = some true := by rw [if_neg (show ¬ (false = true) by decide)] at H; first | done | exact H
          clear H
          have H := H1
          clear H1
          exact absurd (Option.some.inj H) (by decide)
        ·rw [if_neg c32] at H
         exact absurd H (by simp)
       ·rw [if_neg c31] at H
        exact absurd H (by simp)
      ·rw [if_neg c29] at H
       exact absurd H (by simp)
     ·rw [if_neg c28] at H
      exact absurd H (by simp)

end Go.Proofs.YtcomagipdbdglaaDoor.Q
