-- Contracts of the program's functions, each with the plain function that it computes.
import Derived.Test.YtdjhalelgknnkaaQx0
import Derived.Test.YtdjhalelgknnkaaQx1
import Derived.Test.YtdjhalelgknnkaaQx2
import Derived.Test.YtdjhalelgknnkaaQx9
import Derived.Test.YtdjhalelgknnkaaQx36
import Derived.Test.YtdjhalelgknnkaaQx37
namespace Go.Proofs.Ytdjhalelgknnkaa.Q
open Go.RowKit Go.Proofs.YtdjhalelgknnkaaW.PrintWords Go.Proofs.YtdjhalelgknnkaaW.PrintLast Go.Proofs.YtdjhalelgknnkaaW.PrintMore
attribute [local go_sem] max2_int min2_int max_two min_two max_three min_three max_four min_four   -- for this text's walks alone
set_option linter.unusedVariables false
set_option linter.unusedSimpArgs false

attribute [local go_sem high] eqA28
/-! ### laws_FnIvOne: function 4 -/
def laws_FnIvOne.j0 : Nat → Int → Int → Bool → Int → Int → Bool → Int → Option (Bool)
  | 0, _, _, _, _, _, _, _ => none
  | k + 1, x8, x9, x42, x373000, x373001, x373002, x373003 => if x42 = true then (some ((x373000 == 0 && (x373001 == 0)) && (!x373002 && (x373003 == 1)))) else (if x9 = 0 then (some ((x373000 == x8 && (x373001 == x8)) && (x373002 && (x373003 == 0)))) else (some ((x373000 == 0 && (x373001 == 0)) && (!x373002 && (x373003 == 4)))))
def laws_FnIvOne.f (k : Nat) (l0 : List Int) : Option (Bool) := (laws_big.f l0).bind fun t360 => (if t360 = true then (some true) else ((spec_DrawNumSub.f k l0).bind fun bt361 => ((laws_byteOf.f l0 4).bind fun t363 => ((laws_op.f k (Int.tmod t363 5) bt361.1 bt361.1 bt361.2 bt361.2).bind fun bt364 => ((laws_num.f (Int.tmod t363 5) bt361.1 bt361.2).bind fun bt374 => (if ((!(bt364.1 == bt364.2.2.2.2.1) || (!(bt364.2.1 == bt364.2.2.2.2.2.1))) || (!(bt364.2.2.1 == bt364.2.2.2.2.2.2.1) || (!(bt364.2.2.2.1 == bt364.2.2.2.2.2.2.2)))) = true then (some false) else (if (Int.tmod t363 5) ≥ 3 then (laws_FnIvOne.j0 k bt374.1 bt374.2 (bt361.2 == 0) bt364.1 bt364.2.1 bt364.2.2.1 bt364.2.2.2.1) else (laws_FnIvOne.j0 k bt374.1 bt374.2 false bt364.1 bt364.2.1 bt364.2.2.1 bt364.2.2.2.1))))))))
theorem laws_FnIvOne.mono_l : ∀ k, (∀ y0 y1 y2 y3 y4 y5 y6, LeO (laws_FnIvOne.j0 k y0 y1 y2 y3 y4 y5 y6) (laws_FnIvOne.j0 (k + 1) y0 y1 y2 y3 y4 y5 y6))
  | 0 => fun _ _ _ _ _ _ _ r h => by simp [laws_FnIvOne.j0] at h
  | k + 1 => by
    have ih0 := laws_FnIvOne.mono_l k
    · intro y0 y1 y2 y3 y4 y5 y6
      unfold laws_FnIvOne.j0
      repeat' first
      | (with_reducible exact ih0 _ _ _ _ _ _ _)
      | (with_reducible exact laws_op.mono _ _ _ _ _ _)
      | (with_reducible exact spec_DrawNumSub.mono _ _)
      | (with_reducible exact LeO.refl _)
      | (with_reducible exact LeO.none _)
      | (with_reducible refine LeO.ite ?_ ?_)
      | (with_reducible refine LeO.bind ?_ (fun _ => ?_))
      | exact ih0 _ _ _ _ _ _ _
      | exact laws_op.mono _ _ _ _ _ _
      | exact spec_DrawNumSub.mono _ _
      | exact LeO.none _
      | refine LeO.ite ?_ ?_
      | refine LeO.bind ?_ (fun _ => ?_)
theorem laws_FnIvOne.mono : ∀ a0 k, LeO (laws_FnIvOne.f k a0) (laws_FnIvOne.f (k + 1) a0) := by
  intro a0 k
  have ih0 := laws_FnIvOne.mono_l k
  unfold laws_FnIvOne.f
  repeat' first
      | (with_reducible exact ih0 _ _ _ _ _ _ _)
      | (with_reducible exact laws_op.mono _ _ _ _ _ _)
      | (with_reducible exact spec_DrawNumSub.mono _ _)
      | (with_reducible exact LeO.refl _)
      | (with_reducible exact LeO.none _)
      | (with_reducible refine LeO.ite ?_ ?_)
      | (with_reducible refine LeO.bind ?_ (fun _ => ?_))
      | exact ih0 _ _ _ _ _ _ _
      | exact laws_op.mono _ _ _ _ _ _
      | exact spec_DrawNumSub.mono _ _
      | exact LeO.none _
      | refine LeO.ite ?_ ?_
      | refine LeO.bind ?_ (fun _ => ?_)
set_option maxHeartbeats 8000000 in
set_option maxRecDepth 100000 in
theorem laws_FnIvOne.calls (k : Nat) (A0 : Option Addr) (c0 : Nat) (l0 : List Int) (w : World) (hr0 : Kd.C (Kd.int .u8) w A0 l0.length l0) (hc0 : l0.length ≤ c0) (h : laws_FnIvOne.f k l0 = some true) :
    Calls Try.prog 4 #[.slice A0 l0.length c0] w fun e w' => e = .returned (.bool true) ∧ Below w.heap.size w w' := by
  have hu25 := Try.underlying25
  have hu28 := Try.underlying28
  have HR0 := Aside0.mk hr0
  have HC0 := Aside0.mk hc0
  clear hr0 hc0
  have HB := Aside0.mk (Below.refl w.heap.size w)
  have H : ((laws_big.f l0).bind fun t360 => (if t360 = true then (some true) else ((spec_DrawNumSub.f k l0).bind fun bt361 => ((laws_byteOf.f l0 4).bind fun t363 => ((laws_op.f k (Int.tmod t363 5) bt361.1 bt361.1 bt361.2 bt361.2).bind fun bt364 => ((laws_num.f (Int.tmod t363 5) bt361.1 bt361.2).bind fun bt374 => (if ((!(bt364.1 == bt364.2.2.2.2.1) || (!(bt364.2.1 == bt364.2.2.2.2.2.1))) || (!(bt364.2.2.1 == bt364.2.2.2.2.2.2.1) || (!(bt364.2.2.2.1 == bt364.2.2.2.2.2.2.2)))) = true then (some false) else (if (Int.tmod t363 5) ≥ 3 then (laws_FnIvOne.j0 k bt374.1 bt374.2 (bt361.2 == 0) bt364.1 bt364.2.1 bt364.2.2.1 bt364.2.2.2.1) else (laws_FnIvOne.j0 k bt374.1 bt374.2 false bt364.1 bt364.2.1 bt364.2.2.1 bt364.2.2.2.1))))))))) = some true := h
  clear h
  replace H := Option.bind_eq_some_iff.mp H
  obtain ⟨t360, A20, H⟩ := H
  replace H : (if t360 = true then (some true) else ((spec_DrawNumSub.f k l0).bind fun bt361 => ((laws_byteOf.f l0 4).bind fun t363 => ((laws_op.f k (Int.tmod t363 5) bt361.1 bt361.1 bt361.2 bt361.2).bind fun bt364 => ((laws_num.f (Int.tmod t363 5) bt361.1 bt361.2).bind fun bt374 => (if ((!(bt364.1 == bt364.2.2.2.2.1) || (!(bt364.2.1 == bt364.2.2.2.2.2.1))) || (!(bt364.2.2.1 == bt364.2.2.2.2.2.2.1) || (!(bt364.2.2.2.1 == bt364.2.2.2.2.2.2.2)))) = true then (some false) else (if (Int.tmod t363 5) ≥ 3 then (laws_FnIvOne.j0 k bt374.1 bt374.2 (bt361.2 == 0) bt364.1 bt364.2.1 bt364.2.2.1 bt364.2.2.2.1) else (laws_FnIvOne.j0 k bt374.1 bt374.2 false bt364.1 bt364.2.1 bt364.2.2.1 bt364.2.2.2.1)))))))) = some true := H
  have A2 := Aside0.mk A20
  clear A20
  by_cases c3 : t360 = true
  · subst c3
    have H1 : (some true) = some true := by rw [if_pos rfl] at H; first | done | exact H
    clear H
    have H := H1
    clear H1
    have HE_ := Aside0.mk (Option.some.inj H)
    clear H
    go_enter Try.func4, Try.ntmps4
    go_wp2_with (((with_reducible refine gate_callee (f := 8) rfl ?_); refine goesL_ (some 11) rfl rfl Try.func8 (by kernel_rfl) rfl #[.slice A0 l0.length c0] rfl (by (try simp only [List.map_toArray, List.map_cons, List.map_nil]); first | done | rfl | (simp only [List.length_drop, List.length_take]; rfl)) ?_; (with_reducible refine (laws_big.calls _ _ l0 true _ ?side1 ?side2 A2.out).mono ?_); (case side1 => repeat (first | exact HR0.out | (with_reducible refine Kd.C_alloc ?_ _) | (with_reducible refine Kd.C_drewN ?_ _) | (with_reducible refine Kd.C_drew ?_))); (case side2 => exact HC0.out); rintro e w' ⟨rfl, ⟨nd, rfl⟩⟩; refine ⟨_, rfl, ?_⟩))
    go_ret
    exact ⟨by first | rfl | exact congrArg (fun b_ => Ending.returned (Value.bool b_)) HE_.out | (refine absurd HE_.out ?_; simp [*]; done) | (have h_ := HE_.out; clear HE_; simp_all; done) | (have h_ := HE_.out; clear HE_; simp_all; omega) | (simp [errW_none, errW_some] <;> rfl) | (simp [*, errW_none, errW_some] <;> rfl), bw HB⟩
  · replace c3 := Bool.eq_false_iff.mpr c3
    subst c3
    have H1 : ((spec_DrawNumSub.f k l0).bind fun bt361 => ((laws_byteOf.f l0 4).bind fun t363 => ((laws_op.f k (Int.tmod t363 5) bt361.1 bt361.1 bt361.2 bt361.2).bind fun bt364 => ((laws_num.f (Int.tmod t363 5) bt361.1 bt361.2).bind fun bt374 => (if ((!(bt364.1 == bt364.2.2.2.2.1) || (!(bt364.2.1 == bt364.2.2.2.2.2.1))) || (!(bt364.2.2.1 == bt364.2.2.2.2.2.2.1) || (!(bt364.2.2.2.1 == bt364.2.2.2.2.2.2.2)))) = true then (some false) else (if (Int.tmod t363 5) ≥ 3 then (laws_FnIvOne.j0 k bt374.1 bt374.2 (bt361.2 == 0) bt364.1 bt364.2.1 bt364.2.2.1 bt364.2.2.2.1) else (laws_FnIvOne.j0 k bt374.1 bt374.2 false bt364.1 bt364.2.1 bt364.2.2.1 bt364.2.2.2.1))))))) = some true := by rw [if_neg (show ¬ (false = true) by decide)] at H; first | done | exact H
    clear H
    have H := H1
    clear H1
    replace H := Option.bind_eq_some_iff.mp H
    obtain ⟨⟨t361, t362⟩, A40, H⟩ := H
    replace H : ((laws_byteOf.f l0 4).bind fun t363 => ((laws_op.f k (Int.tmod t363 5) t361 t361 t362 t362).bind fun bt364 => ((laws_num.f (Int.tmod t363 5) t361 t362).bind fun bt374 => (if ((!(bt364.1 == bt364.2.2.2.2.1) || (!(bt364.2.1 == bt364.2.2.2.2.2.1))) || (!(bt364.2.2.1 == bt364.2.2.2.2.2.2.1) || (!(bt364.2.2.2.1 == bt364.2.2.2.2.2.2.2)))) = true then (some false) else (if (Int.tmod t363 5) ≥ 3 then (laws_FnIvOne.j0 k bt374.1 bt374.2 (t362 == 0) bt364.1 bt364.2.1 bt364.2.2.1 bt364.2.2.2.1) else (laws_FnIvOne.j0 k bt374.1 bt374.2 false bt364.1 bt364.2.1 bt364.2.2.1 bt364.2.2.2.1)))))) = some true := H
    have A4 := Aside0.mk A40
    clear A40
    replace H := Option.bind_eq_some_iff.mp H
    obtain ⟨t363, A50, H⟩ := H
    replace H : ((laws_op.f k (Int.tmod t363 5) t361 t361 t362 t362).bind fun bt364 => ((laws_num.f (Int.tmod t363 5) t361 t362).bind fun bt374 => (if ((!(bt364.1 == bt364.2.2.2.2.1) || (!(bt364.2.1 == bt364.2.2.2.2.2.1))) || (!(bt364.2.2.1 == bt364.2.2.2.2.2.2.1) || (!(bt364.2.2.2.1 == bt364.2.2.2.2.2.2.2)))) = true then (some false) else (if (Int.tmod t363 5) ≥ 3 then (laws_FnIvOne.j0 k bt374.1 bt374.2 (t362 == 0) bt364.1 bt364.2.1 bt364.2.2.1 bt364.2.2.2.1) else (laws_FnIvOne.j0 k bt374.1 bt374.2 false bt364.1 bt364.2.1 bt364.2.2.1 bt364.2.2.2.1))))) = some true := H
    have A5 := Aside0.mk A50
    clear A50
    replace H := Option.bind_eq_some_iff.mp H
    obtain ⟨⟨t364, t365, t366, t367, t368, t369, t370, t371⟩, A60, H⟩ := H
    replace H : ((laws_num.f (Int.tmod t363 5) t361 t362).bind fun bt374 => (if ((!(t364 == t368) || (!(t365 == t369))) || (!(t366 == t370) || (!(t367 == t371)))) = true then (some false) else (if (Int.tmod t363 5) ≥ 3 then (laws_FnIvOne.j0 k bt374.1 bt374.2 (t362 == 0) t364 t365 t366 t367) else (laws_FnIvOne.j0 k bt374.1 bt374.2 false t364 t365 t366 t367)))) = some true := H
    have A6 := Aside0.mk A60
    clear A60
    replace H := Option.bind_eq_some_iff.mp H
    obtain ⟨⟨t374, t375⟩, A70, H⟩ := H
    replace H : (if ((!(t364 == t368) || (!(t365 == t369))) || (!(t366 == t370) || (!(t367 == t371)))) = true then (some false) else (if (Int.tmod t363 5) ≥ 3 then (laws_FnIvOne.j0 k t374 t375 (t362 == 0) t364 t365 t366 t367) else (laws_FnIvOne.j0 k t374 t375 false t364 t365 t366 t367))) = some true := H
    have A7 := Aside0.mk A70
    clear A70
    by_cases c8 : ((!(t364 == t368) || (!(t365 == t369))) || (!(t366 == t370) || (!(t367 == t371)))) = true
    · rw [if_pos c8] at H
      have c8b0 : ((!(t364 == t368) || (!(t365 == t369))) || (!(t366 == t370) || (!(t367 == t371)))) = true := c8
      clear c8
      exact absurd (Option.some.inj H) (by decide)
    · rw [if_neg c8] at H
      have c8b0 : ((!(t364 == t368) || (!(t365 == t369))) || (!(t366 == t370) || (!(t367 == t371)))) = false := by simpa using c8
      clear c8
      have HC9 := Aside0.mk H
      clear H
      go_enter Try.func4, Try.ntmps4
      go_upto_region 9 with (first | ((with_reducible refine gate_callee (f := 8) rfl ?_); refine goesL_ (some 11) rfl rfl Try.func8 (by kernel_rfl) rfl #[.slice A0 l0.length c0] rfl (by (try simp only [List.map_toArray, List.map_cons, List.map_nil]); first | done | rfl | (simp only [List.length_drop, List.length_take]; rfl)) ?_; (with_reducible refine (laws_big.calls _ _ l0 false _ ?side1 ?side2 A2.out).mono ?_); (case side1 => repeat (first | exact HR0.out | (with_reducible refine Kd.C_alloc ?_ _) | (with_reducible refine Kd.C_drewN ?_ _) | (with_reducible refine Kd.C_drew ?_))); (case side2 => exact HC0.out); rintro e w' ⟨rfl, ⟨nd, rfl⟩⟩; refine ⟨_, rfl, ?_⟩) | ((with_reducible refine gate_callee (f := 13) rfl ?_); refine goesL_ (some 14) rfl rfl Try.func13 (by kernel_rfl) rfl #[.slice A0 l0.length c0] rfl (by (try simp only [List.map_toArray, List.map_cons, List.map_nil]); first | done | rfl | (simp only [List.length_drop, List.length_take]; rfl)) ?_; (with_reducible refine (spec_DrawNumSub.calls k _ _ l0 t361 t362 _ ?side1 ?side2 A4.out).mono ?_); (case side1 => repeat (first | exact HR0.out | (with_reducible refine Kd.C_alloc ?_ _) | (with_reducible refine Kd.C_drewN ?_ _) | (with_reducible refine Kd.C_drew ?_))); (case side2 => exact HC0.out); rintro e w10 ⟨rfl, hb⟩; refine ⟨_, rfl, ?_⟩; replace HB := bs HB hb; (try clear hb); (try clear hb2); (try clear hk); (try clear hi)) | ((with_reducible refine gate_callee (f := 14) rfl ?_); refine goesL_ (some 18) rfl rfl Try.func14 (by kernel_rfl) rfl #[.slice A0 l0.length c0, .int .i64 4] rfl (by (try simp only [List.map_toArray, List.map_cons, List.map_nil]); first | done | rfl | (simp only [List.length_drop, List.length_take]; rfl)) ?_; (with_reducible refine (laws_byteOf.calls _ _ l0 4 t363 _ ?side1 ?side2 A5.out).mono ?_); (case side1 => repeat (first | exact (Kd.C_below HR0.out HB.out) | (with_reducible refine Kd.C_alloc ?_ _) | (with_reducible refine Kd.C_drewN ?_ _) | (with_reducible refine Kd.C_drew ?_))); (case side2 => exact HC0.out); rintro e w' ⟨rfl, ⟨nd, rfl⟩⟩; refine ⟨_, rfl, ?_⟩; (try (rw [drewN_self w10]; generalize hq_ : World.drewN w10 _ = w10; have n0_ : Aside0 (Below w.heap.size w w10) := ⟨by rw [← hq_]; exact (bw HB)⟩; clear HB hq_; have HB := n0_; clear n0_))) | ((with_reducible refine gate_callee (f := 15) rfl ?_); refine goesL_ (some 28) rfl rfl Try.func15 (by kernel_rfl) rfl #[.int .i64 (Int.tmod t363 5), .agg #[.int .i64 t361, .int .i64 t361], .agg #[.int .i64 t362, .int .i64 t362]] rfl (by (try simp only [List.map_toArray, List.map_cons, List.map_nil]); first | done | rfl | (simp only [List.length_drop, List.length_take]; rfl)) ?_; (with_reducible refine (laws_op.calls k (Int.tmod t363 5) t361 t361 t362 t362 t364 t365 t366 t367 t368 t369 t370 t371 _ A6.out).mono ?_); rintro e w11 ⟨rfl, hb⟩; refine ⟨_, rfl, ?_⟩; replace HB := bs HB hb; (try clear hb); (try clear hb2); (try clear hk); (try clear hi)) | ((with_reducible refine gate_dst (N := 6) rfl ?_); refine box_event rfl rfl (cs := #[.int .i64 0, .int .i64 0, .bool false, .int .i64 0]) (t := 28) (by first | (go_simp; done) | (go_simp; rfl)) ?_; intro gb372 hg w12 hbox hb; have BK372 := Aside0.mk (hbox); have GW372 := bz HB hg; have GE372 := bz HB hg; replace HB := bs HB hb; clear hb hbox hg) | ((with_reducible refine gate_dst (N := 7) rfl ?_); refine box_event rfl rfl (cs := #[.int .i64 0, .int .i64 0, .bool false, .int .i64 0]) (t := 28) (by first | (go_simp; done) | (go_simp; rfl)) ?_; intro gb373 hg w13 hbox hb; have BK373 := Aside0.mk (hbox); have GW373 := bz HB hg; have GE373 := bz HB hg; replace HB := bs HB hb; have NB372_373 := bl BK372 hg; have NB373_372 := bg BK372 hg; replace BK372 := bb BK372 hb; clear hb hbox hg; have hnb14 := NB372_373.out; have hnc14 := NB373_372.out; have hcz15_0 : w13.cell? ⟨gb372, 0, none⟩ = some (.int .i64 0) := (blk_cell BK372.out 0).trans rfl; have hcz15_1 : w13.cell? ⟨gb372, 1, none⟩ = some (.int .i64 0) := (blk_cell BK372.out 1).trans rfl; have hcz15_2 : w13.cell? ⟨gb372, 2, none⟩ = some (.bool false) := (blk_cell BK372.out 2).trans rfl; have hcz15_3 : w13.cell? ⟨gb372, 3, none⟩ = some (.int .i64 0) := (blk_cell BK372.out 3).trans rfl; have hfz15_0 := blk_frozen BK372.out 0; have hfz15_1 := blk_frozen BK372.out 1; have hfz15_2 := blk_frozen BK372.out 2; have hfz15_3 := blk_frozen BK372.out 3; have hcz16_0 : w13.cell? ⟨gb373, 0, none⟩ = some (.int .i64 0) := (blk_cell BK373.out 0).trans rfl; have hcz16_1 : w13.cell? ⟨gb373, 1, none⟩ = some (.int .i64 0) := (blk_cell BK373.out 1).trans rfl; have hcz16_2 : w13.cell? ⟨gb373, 2, none⟩ = some (.bool false) := (blk_cell BK373.out 2).trans rfl; have hcz16_3 : w13.cell? ⟨gb373, 3, none⟩ = some (.int .i64 0) := (blk_cell BK373.out 3).trans rfl; have hfz16_0 := blk_frozen BK373.out 0; have hfz16_1 := blk_frozen BK373.out 1; have hfz16_2 := blk_frozen BK373.out 2; have hfz16_3 := blk_frozen BK373.out 3) | ((with_reducible refine gate_callee (f := 16) rfl ?_); refine goesL_ (some 35) rfl rfl Try.func16 (by kernel_rfl) rfl #[.int .i64 (Int.tmod t363 5), .int .i64 t361, .int .i64 t362] rfl (by (try simp only [List.map_toArray, List.map_cons, List.map_nil]); first | done | rfl | (simp only [List.length_drop, List.length_take]; rfl)) ?_; (with_reducible refine (laws_num.calls (Int.tmod t363 5) t361 t362 t374 t375 _ A7.out).mono ?_); rintro e w' ⟨rfl, ⟨nd, rfl⟩⟩; refine ⟨_, rfl, ?_⟩))
      (try simp only [Act.put, List.setIfInBounds_toArray, List.set_cons_zero, List.set_cons_succ])
      go_cut [42] (fun v42 wc => ∃ (kq : Nat) (x42_8 : Bool), v42 = .bool x42_8 ∧ Aside0 (laws_FnIvOne.j0 kq t374 t375 x42_8 t364 t365 t366 t367 = some true) ∧ Aside0 (kq ≤ k) ∧ Aside0 (wc.heap[gb372]? = some (.cells #[.int .i64 t364, .int .i64 t365, .bool t366, .int .i64 t367] 28 (0, 0))) ∧ Aside0 (wc.heap[gb373]? = some (.cells #[.int .i64 t368, .int .i64 t369, .bool t370, .int .i64 t371] 28 (0, 0))) ∧ Aside0 (Below w.heap.size w wc))
      case first =>
        have H := HC9.out
        clear HC9
        by_cases c17 : (Int.tmod t363 5) ≥ 3
        · rw [if_pos c17] at H
          have c17b0 : decide (3 ≤ (Int.tmod t363 5)) = true := decide_eq_true c17
          clear c17
          (first | rw [c17b0] | (simp only [i64_w, i32_w]; rw [c17b0]) | skip)
          have H' := Aside0.mk H
          clear H
          go_wp2
          go_meet
          case rel => exact ⟨_, ((t362 == 0)), (by first | rfl | (simp; done) | (simp [*]; done)), H', ⟨by first | omega | exact Nat.le_refl _⟩, ⟨by (with_reducible repeat (first | refine blk_drewN ?_ _ | refine blk_drew ?_ | refine blk_alloc ?_ _)); refine blk_far ?_ NB372_373.out _; (with_reducible repeat (first | refine blk_drewN ?_ _ | refine blk_drew ?_ | refine blk_alloc ?_ _)); refine blk_far ?_ NB372_373.out _; (with_reducible repeat (first | refine blk_drewN ?_ _ | refine blk_drew ?_ | refine blk_alloc ?_ _)); refine blk_far ?_ NB372_373.out _; (with_reducible repeat (first | refine blk_drewN ?_ _ | refine blk_drew ?_ | refine blk_alloc ?_ _)); refine blk_far ?_ NB372_373.out _; (with_reducible repeat (first | refine blk_drewN ?_ _ | refine blk_drew ?_ | refine blk_alloc ?_ _)); refine blk_put (cs := #[.int .i64 t364, .int .i64 t365, .bool t366, .int .i64 0]) ?_ 3 _ rfl; (with_reducible repeat (first | refine blk_drewN ?_ _ | refine blk_drew ?_ | refine blk_alloc ?_ _)); refine blk_put (cs := #[.int .i64 t364, .int .i64 t365, .bool false, .int .i64 0]) ?_ 2 _ rfl; (with_reducible repeat (first | refine blk_drewN ?_ _ | refine blk_drew ?_ | refine blk_alloc ?_ _)); refine blk_put (cs := #[.int .i64 t364, .int .i64 0, .bool false, .int .i64 0]) ?_ 1 _ rfl; (with_reducible repeat (first | refine blk_drewN ?_ _ | refine blk_drew ?_ | refine blk_alloc ?_ _)); refine blk_put (cs := #[.int .i64 0, .int .i64 0, .bool false, .int .i64 0]) ?_ 0 _ rfl; (with_reducible repeat (first | refine blk_drewN ?_ _ | refine blk_drew ?_ | refine blk_alloc ?_ _)); exact BK372.out⟩, ⟨by (with_reducible repeat (first | refine blk_drewN ?_ _ | refine blk_drew ?_ | refine blk_alloc ?_ _)); refine blk_put (cs := #[.int .i64 t368, .int .i64 t369, .bool t370, .int .i64 0]) ?_ 3 _ rfl; (with_reducible repeat (first | refine blk_drewN ?_ _ | refine blk_drew ?_ | refine blk_alloc ?_ _)); refine blk_put (cs := #[.int .i64 t368, .int .i64 t369, .bool false, .int .i64 0]) ?_ 2 _ rfl; (with_reducible repeat (first | refine blk_drewN ?_ _ | refine blk_drew ?_ | refine blk_alloc ?_ _)); refine blk_put (cs := #[.int .i64 t368, .int .i64 0, .bool false, .int .i64 0]) ?_ 1 _ rfl; (with_reducible repeat (first | refine blk_drewN ?_ _ | refine blk_drew ?_ | refine blk_alloc ?_ _)); refine blk_put (cs := #[.int .i64 0, .int .i64 0, .bool false, .int .i64 0]) ?_ 0 _ rfl; (with_reducible repeat (first | refine blk_drewN ?_ _ | refine blk_drew ?_ | refine blk_alloc ?_ _)); refine blk_far ?_ NB373_372.out _; (with_reducible repeat (first | refine blk_drewN ?_ _ | refine blk_drew ?_ | refine blk_alloc ?_ _)); refine blk_far ?_ NB373_372.out _; (with_reducible repeat (first | refine blk_drewN ?_ _ | refine blk_drew ?_ | refine blk_alloc ?_ _)); refine blk_far ?_ NB373_372.out _; (with_reducible repeat (first | refine blk_drewN ?_ _ | refine blk_drew ?_ | refine blk_alloc ?_ _)); refine blk_far ?_ NB373_372.out _; (with_reducible repeat (first | refine blk_drewN ?_ _ | refine blk_drew ?_ | refine blk_alloc ?_ _)); exact BK373.out⟩, ⟨bw HB⟩⟩
        · rw [if_neg c17] at H
          have c17b0 : decide (3 ≤ (Int.tmod t363 5)) = false := decide_eq_false c17
          clear c17
          (first | rw [c17b0] | (simp only [i64_w, i32_w]; rw [c17b0]) | skip)
          have H' := Aside0.mk H
          clear H
          go_wp2
          go_meet
          case rel => exact ⟨_, (false), (by first | rfl | (simp; done) | (simp [*]; done)), H', ⟨by first | omega | exact Nat.le_refl _⟩, ⟨by (with_reducible repeat (first | refine blk_drewN ?_ _ | refine blk_drew ?_ | refine blk_alloc ?_ _)); refine blk_far ?_ NB372_373.out _; (with_reducible repeat (first | refine blk_drewN ?_ _ | refine blk_drew ?_ | refine blk_alloc ?_ _)); refine blk_far ?_ NB372_373.out _; (with_reducible repeat (first | refine blk_drewN ?_ _ | refine blk_drew ?_ | refine blk_alloc ?_ _)); refine blk_far ?_ NB372_373.out _; (with_reducible repeat (first | refine blk_drewN ?_ _ | refine blk_drew ?_ | refine blk_alloc ?_ _)); refine blk_far ?_ NB372_373.out _; (with_reducible repeat (first | refine blk_drewN ?_ _ | refine blk_drew ?_ | refine blk_alloc ?_ _)); refine blk_put (cs := #[.int .i64 t364, .int .i64 t365, .bool t366, .int .i64 0]) ?_ 3 _ rfl; (with_reducible repeat (first | refine blk_drewN ?_ _ | refine blk_drew ?_ | refine blk_alloc ?_ _)); refine blk_put (cs := #[.int .i64 t364, .int .i64 t365, .bool false, .int .i64 0]) ?_ 2 _ rfl; (with_reducible repeat (first | refine blk_drewN ?_ _ | refine blk_drew ?_ | refine blk_alloc ?_ _)); refine blk_put (cs := #[.int .i64 t364, .int .i64 0, .bool false, .int .i64 0]) ?_ 1 _ rfl; (with_reducible repeat (first | refine blk_drewN ?_ _ | refine blk_drew ?_ | refine blk_alloc ?_ _)); refine blk_put (cs := #[.int .i64 0, .int .i64 0, .bool false, .int .i64 0]) ?_ 0 _ rfl; (with_reducible repeat (first | refine blk_drewN ?_ _ | refine blk_drew ?_ | refine blk_alloc ?_ _)); exact BK372.out⟩, ⟨by (with_reducible repeat (first | refine blk_drewN ?_ _ | refine blk_drew ?_ | refine blk_alloc ?_ _)); refine blk_put (cs := #[.int .i64 t368, .int .i64 t369, .bool t370, .int .i64 0]) ?_ 3 _ rfl; (with_reducible repeat (first | refine blk_drewN ?_ _ | refine blk_drew ?_ | refine blk_alloc ?_ _)); refine blk_put (cs := #[.int .i64 t368, .int .i64 t369, .bool false, .int .i64 0]) ?_ 2 _ rfl; (with_reducible repeat (first | refine blk_drewN ?_ _ | refine blk_drew ?_ | refine blk_alloc ?_ _)); refine blk_put (cs := #[.int .i64 t368, .int .i64 0, .bool false, .int .i64 0]) ?_ 1 _ rfl; (with_reducible repeat (first | refine blk_drewN ?_ _ | refine blk_drew ?_ | refine blk_alloc ?_ _)); refine blk_put (cs := #[.int .i64 0, .int .i64 0, .bool false, .int .i64 0]) ?_ 0 _ rfl; (with_reducible repeat (first | refine blk_drewN ?_ _ | refine blk_drew ?_ | refine blk_alloc ?_ _)); refine blk_far ?_ NB373_372.out _; (with_reducible repeat (first | refine blk_drewN ?_ _ | refine blk_drew ?_ | refine blk_alloc ?_ _)); refine blk_far ?_ NB373_372.out _; (with_reducible repeat (first | refine blk_drewN ?_ _ | refine blk_drew ?_ | refine blk_alloc ?_ _)); refine blk_far ?_ NB373_372.out _; (with_reducible repeat (first | refine blk_drewN ?_ _ | refine blk_drew ?_ | refine blk_alloc ?_ _)); refine blk_far ?_ NB373_372.out _; (with_reducible repeat (first | refine blk_drewN ?_ _ | refine blk_drew ?_ | refine blk_alloc ?_ _)); exact BK373.out⟩, ⟨bw HB⟩⟩
      case rest =>
        clear HC9
        try clear c1
        try clear p2
        try clear c3
        try clear c4
        try clear c8
        try clear c8b0
        try clear c13
        try clear c14
        try clear c15
        try clear c16
        try clear c17
        try clear c17b0
        try clear hcz15_0
        try clear hcz15_1
        try clear hcz15_2
        try clear hcz15_3
        try clear hcz16_0
        try clear hcz16_1
        try clear hcz16_2
        try clear hcz16_3
        try clear hfz15_0
        try clear hfz15_1
        try clear hfz15_2
        try clear hfz15_3
        try clear hfz16_0
        try clear hfz16_1
        try clear hfz16_2
        try clear hfz16_3
        obtain ⟨kq, x42_8, rfl, HA, HJ8, BK372, BK373, HB⟩ := hcut
        cases kq with
        | zero => exact absurd HA.out (by simp [laws_FnIvOne.j0])
        | succ kj8 =>
          have H := HA.out
          clear HA
          simp only [laws_FnIvOne.j0] at H
          by_cases c18 : x42_8 = true
          · subst c18
            have H1 : (some ((t364 == 0 && (t365 == 0)) && (!t366 && (t367 == 1)))) = some true := by rw [if_pos rfl] at H; first | done | exact H
            clear H
            have H := H1
            clear H1
            have HE_ := Aside0.mk (Option.some.inj H)
            clear H
            have hnb19 := NB372_373.out
            have hnc19 := NB373_372.out
            have hcz20_0 : wc.cell? ⟨gb372, 0, none⟩ = some (.int .i64 t364) := (blk_cell BK372.out 0).trans rfl
            have hcz20_1 : wc.cell? ⟨gb372, 1, none⟩ = some (.int .i64 t365) := (blk_cell BK372.out 1).trans rfl
            have hcz20_2 : wc.cell? ⟨gb372, 2, none⟩ = some (.bool t366) := (blk_cell BK372.out 2).trans rfl
            have hcz20_3 : wc.cell? ⟨gb372, 3, none⟩ = some (.int .i64 t367) := (blk_cell BK372.out 3).trans rfl
            have hfz20_0 := blk_frozen BK372.out 0
            have hfz20_1 := blk_frozen BK372.out 1
            have hfz20_2 := blk_frozen BK372.out 2
            have hfz20_3 := blk_frozen BK372.out 3
            go_wp2
            go_ret
            exact ⟨by first | rfl | exact congrArg (fun b_ => Ending.returned (Value.bool b_)) HE_.out | (refine absurd HE_.out ?_; simp [*]; done) | (have h_ := HE_.out; clear HE_; simp_all; done) | (have h_ := HE_.out; clear HE_; simp_all; omega) | (simp [errW_none, errW_some] <;> rfl) | (simp [*, errW_none, errW_some] <;> rfl), bw HB⟩
          · replace c18 := Bool.eq_false_iff.mpr c18
            subst c18
            have H1 : (if t375 = 0 then (some ((t364 == t374 && (t365 == t374)) && (t366 && (t367 == 0)))) else (some ((t364 == 0 && (t365 == 0)) && (!t366 && (t367 == 4))))) = some true := by rw [if_neg (show ¬ (false = true) by decide)] at H; first | done | exact H
            clear H
            have H := H1
            clear H1
            by_cases c21 : t375 = 0
            · rw [if_pos c21] at H
              have c21b0 : (t375 == 0) = true := beq_iff_eq.mpr c21
              have c21b1 : (t375 != 0) = false := bne_eq_false_iff_eq.mpr c21
              clear c21
              have HE_ := Aside0.mk (Option.some.inj H)
              clear H
              have hnb22 := NB372_373.out
              have hnc22 := NB373_372.out
              have hcz23_0 : wc.cell? ⟨gb372, 0, none⟩ = some (.int .i64 t364) := (blk_cell BK372.out 0).trans rfl
              have hcz23_1 : wc.cell? ⟨gb372, 1, none⟩ = some (.int .i64 t365) := (blk_cell BK372.out 1).trans rfl
              have hcz23_2 : wc.cell? ⟨gb372, 2, none⟩ = some (.bool t366) := (blk_cell BK372.out 2).trans rfl
              have hcz23_3 : wc.cell? ⟨gb372, 3, none⟩ = some (.int .i64 t367) := (blk_cell BK372.out 3).trans rfl
              have hfz23_0 := blk_frozen BK372.out 0
              have hfz23_1 := blk_frozen BK372.out 1
              have hfz23_2 := blk_frozen BK372.out 2
              have hfz23_3 := blk_frozen BK372.out 3
              go_wp2
              go_ret
              exact ⟨by first | rfl | exact congrArg (fun b_ => Ending.returned (Value.bool b_)) HE_.out | (refine absurd HE_.out ?_; simp [*]; done) | (have h_ := HE_.out; clear HE_; simp_all; done) | (have h_ := HE_.out; clear HE_; simp_all; omega) | (simp [errW_none, errW_some] <;> rfl) | (simp [*, errW_none, errW_some] <;> rfl), bw HB⟩
            · rw [if_neg c21] at H
              have c21b0 : (t375 == 0) = false := beq_eq_false_iff_ne.mpr c21
              have c21b1 : (t375 != 0) = true := bne_iff_ne.mpr c21
              have HE_ := Aside0.mk (Option.some.inj H)
              clear H
              have hnb24 := NB372_373.out
              have hnc24 := NB373_372.out
              have hcz25_0 : wc.cell? ⟨gb372, 0, none⟩ = some (.int .i64 t364) := (blk_cell BK372.out 0).trans rfl
              have hcz25_1 : wc.cell? ⟨gb372, 1, none⟩ = some (.int .i64 t365) := (blk_cell BK372.out 1).trans rfl
              have hcz25_2 : wc.cell? ⟨gb372, 2, none⟩ = some (.bool t366) := (blk_cell BK372.out 2).trans rfl
              have hcz25_3 : wc.cell? ⟨gb372, 3, none⟩ = some (.int .i64 t367) := (blk_cell BK372.out 3).trans rfl
              have hfz25_0 := blk_frozen BK372.out 0
              have hfz25_1 := blk_frozen BK372.out 1
              have hfz25_2 := blk_frozen BK372.out 2
              have hfz25_3 := blk_frozen BK372.out 3
              go_wp2
              go_ret
              exact ⟨by first | rfl | exact congrArg (fun b_ => Ending.returned (Value.bool b_)) HE_.out | (refine absurd HE_.out ?_; simp [*]; done) | (have h_ := HE_.out; clear HE_; simp_all; done) | (have h_ := HE_.out; clear HE_; simp_all; omega) | (simp [errW_none, errW_some] <;> rfl) | (simp [*, errW_none, errW_some] <;> rfl), bw HB⟩

end Go.Proofs.Ytdjhalelgknnkaa.Q
