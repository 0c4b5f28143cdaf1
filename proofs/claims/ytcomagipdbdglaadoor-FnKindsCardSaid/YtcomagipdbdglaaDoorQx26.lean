-- Contracts of the program's functions, each with the plain function that it computes.
import Derived.Test.YtcomagipdbdglaaDoorQx0
import Derived.Test.YtcomagipdbdglaaDoorZipB
import Derived.Test.YtcomagipdbdglaaDoorQx17
import Derived.Test.YtcomagipdbdglaaDoorQx18
import Derived.Test.YtcomagipdbdglaaDoorQx19
import Derived.Test.YtcomagipdbdglaaDoorQx21
import Derived.Test.YtcomagipdbdglaaDoorQx24
import Derived.Test.YtcomagipdbdglaaDoorQx25
namespace Go.Proofs.YtcomagipdbdglaaDoor.Q
open Go.RowKit Go.Proofs.YtcomagipdbdglaaDoorW.PrintWords Go.Proofs.YtcomagipdbdglaaDoorW.PrintLast Go.Proofs.YtcomagipdbdglaaDoorW.PrintMore
attribute [local go_sem] max2_int min2_int max_two min_two max_three min_three max_four min_four   -- for this text's walks alone
set_option linter.unusedVariables false
set_option linter.unusedSimpArgs false

/-! ### spec_DrawExprOk: function 50 -/
def spec_DrawExprOk.f (k : Nat) (l0 : List Int) : Option (List ByteArray × List ByteArray × (List (S91)) × (List (S86))) := (spec_l1Open.f l0).bind fun bt434 => ((spec_l1Rd_decl.f bt434.1 bt434.2).bind fun bt437 => ((spec_l1Rd_below.f bt434.1 bt437.2.2.2 2).bind fun bt448 => ((spec_l1Rd_below.f bt434.1 bt448.2 3).bind fun bt450 => ((spec_l1Rd_expr.f k bt434.1 bt450.2 bt437.1 bt437.2.1 bt437.2.2.1 (wrap64 (1 + bt448.1)) (wrap64 (1 + bt450.1))).bind fun bt452 => ((spec_l1Rd_hurtDecl.f k bt434.1 bt452.2 bt437.1 bt437.2.1 bt437.2.2.1).bind fun bt456 => ((spec_l1Rd_hurtExpr.f k bt434.1 bt456.2.2.2 bt452.1).bind fun bt466 => (some (bt456.1, bt456.2.1, bt456.2.2.1, bt466.1))))))))
theorem spec_DrawExprOk.mono : ∀ a0 k, LeO (spec_DrawExprOk.f k a0) (spec_DrawExprOk.f (k + 1) a0) := by
 intro a0 k
 unfold spec_DrawExprOk.f
 repeat' first
   | (with_reducible exact spec_l1Rd_expr.mono _ _ _ _ _ _ _ _)
   | (with_reducible exact spec_l1Rd_hurtDecl.mono _ _ _ _ _ _)
   | (with_reducible exact spec_l1Rd_hurtExpr.mono _ _ _ _)
   | (with_reducible exact LeO.refl _)
   | (with_reducible exact LeO.none _)
   | (with_reducible refine LeO.ite ?_ ?_)
   | (with_reducible refine LeO.bind ?_ (fun _ => ?_))
   | exact spec_l1Rd_expr.mono _ _ _ _ _ _ _ _
   | exact spec_l1Rd_hurtDecl.mono _ _ _ _ _ _
   | exact spec_l1Rd_hurtExpr.mono _ _ _ _
   | exact LeO.none _
   | refine LeO.ite ?_ ?_
   | refine LeO.bind ?_ (fun _ => ?_)
def spec_DrawExprOk.T3 : Bool × List (List Nat × List Nat) := (true, [([], []), ([], []), ([], []), ([2], [2]), ([3], [3]), ([], []), ([5, 3], [5]), ([6], [6]), ([0, 1, 4, 7, 6], [0, 1, 4, 7]), ([8, 8, 0, 1, 2, 3, 4, 5, 6, 7, 8], [8])])
def spec_DrawExprOk.B3 : List Nat := [0, 0, 0, 4, 12, 0, 44, 108, 255, 511]
theorem spec_DrawExprOk.tab3 : rtab .any (opsOf Tryd.f50 3) = spec_DrawExprOk.T3 := by kernel_rfl
theorem spec_DrawExprOk.bits3 : waitsOk spec_DrawExprOk.T3.2 spec_DrawExprOk.B3 = true := by kernel_rfl
set_option maxHeartbeats 8000000 in
set_option maxRecDepth 100000 in
theorem spec_DrawExprOk.calls (k : Nat) (A0 : Option Addr) (c0 : Nat) (l0 : List Int) (r1 : List ByteArray) (r2 : List ByteArray) (r3 : List (S91)) (r4 : List (S86)) (w : World) (hr0 : Kd.C (Kd.int .u8) w A0 l0.length l0) (hc0 : l0.length ≤ c0) (h : spec_DrawExprOk.f k l0 = some (r1, r2, r3, r4)) :
  Calls Tryd.prog 50 #[.slice A0 l0.length c0] w fun e w' => ∃ v0_ v1_ v2_ v3_ : Value, e = .returned (.tuple #[.agg #[v0_, v1_, v2_], v3_]) ∧ Kd.R Kd.string 9 w' w.heap.size (fun k_ => some k_ ≠ (v1_ : Value).ownBlock) v0_ r1 ∧ Kd.R Kd.string 9 w' w.heap.size (fun k_ => some k_ ≠ (v0_ : Value).ownBlock) v1_ r2 ∧ Kd.R k91 91 w' w.heap.size (fun _ => True) v2_ r3 ∧ Kd.R k86 86 w' w.heap.size (fun _ => True) v3_ r4 ∧ Below w.heap.size w w' := by
 have hu30 := Tryd.underlying30
 have HR0 := Aside0.mk hr0
 have HC0 := Aside0.mk hc0
 clear hr0 hc0
 have HB := Aside0.mk (Below.refl w.heap.size w)
 have H : ((spec_l1Open.f l0).bind fun bt434 => ((spec_l1Rd_decl.f bt434.1 bt434.2).bind fun bt437 => ((spec_l1Rd_below.f bt434.1 bt437.2.2.2 2).bind fun bt448 => ((spec_l1Rd_below.f bt434.1 bt448.2 3).bind fun bt450 => ((spec_l1Rd_expr.f k bt434.1 bt450.2 bt437.1 bt437.2.1 bt437.2.2.1 (wrap64 (1 + bt448.1)) (wrap64 (1 + bt450.1))).bind fun bt452 => ((spec_l1Rd_hurtDecl.f k bt434.1 bt452.2 bt437.1 bt437.2.1 bt437.2.2.1).bind fun bt456 => ((spec_l1Rd_hurtExpr.f k bt434.1 bt456.2.2.2 bt452.1).bind fun bt466 => (some (bt456.1, bt456.2.1, bt456.2.2.1, bt466.1))))))))) = some (r1, r2, r3, r4) := h
 clear h
 replace H := Option.bind_eq_some_iff.mp H
 obtain ⟨⟨t434, t435⟩, A20, H⟩ := H
 replace H : ((spec_l1Rd_decl.f t434 t435).bind fun bt437 => ((spec_l1Rd_below.f t434 bt437.2.2.2 2).bind fun bt448 => ((spec_l1Rd_below.f t434 bt448.2 3).bind fun bt450 => ((spec_l1Rd_expr.f k t434 bt450.2 bt437.1 bt437.2.1 bt437.2.2.1 (wrap64 (1 + bt448.1)) (wrap64 (1 + bt450.1))).bind fun bt452 => ((spec_l1Rd_hurtDecl.f k t434 bt452.2 bt437.1 bt437.2.1 bt437.2.2.1).bind fun bt456 => ((spec_l1Rd_hurtExpr.f k t434 bt456.2.2.2 bt452.1).bind fun bt466 => (some (bt456.1, bt456.2.1, bt456.2.2.1, bt466.1)))))))) = some (r1, r2, r3, r4) := H
 have A2 := Aside0.mk A20
 clear A20
 replace H := Option.bind_eq_some_iff.mp H
 obtain ⟨⟨t437, t440, t443, t446⟩, A30, H⟩ := H
 replace H : ((spec_l1Rd_below.f t434 t446 2).bind fun bt448 => ((spec_l1Rd_below.f t434 bt448.2 3).bind fun bt450 => ((spec_l1Rd_expr.f k t434 bt450.2 t437 t440 t443 (wrap64 (1 + bt448.1)) (wrap64 (1 + bt450.1))).bind fun bt452 => ((spec_l1Rd_hurtDecl.f k t434 bt452.2 t437 t440 t443).bind fun bt456 => ((spec_l1Rd_hurtExpr.f k t434 bt456.2.2.2 bt452.1).bind fun bt466 => (some (bt456.1, bt456.2.1, bt456.2.2.1, bt466.1))))))) = some (r1, r2, r3, r4) := H
 have A3 := Aside0.mk A30
 clear A30
 replace H := Option.bind_eq_some_iff.mp H
 obtain ⟨⟨t448, t449⟩, A40, H⟩ := H
 replace H : ((spec_l1Rd_below.f t434 t449 3).bind fun bt450 => ((spec_l1Rd_expr.f k t434 bt450.2 t437 t440 t443 (wrap64 (1 + t448)) (wrap64 (1 + bt450.1))).bind fun bt452 => ((spec_l1Rd_hurtDecl.f k t434 bt452.2 t437 t440 t443).bind fun bt456 => ((spec_l1Rd_hurtExpr.f k t434 bt456.2.2.2 bt452.1).bind fun bt466 => (some (bt456.1, bt456.2.1, bt456.2.2.1, bt466.1)))))) = some (r1, r2, r3, r4) := H
 have A4 := Aside0.mk A40
 clear A40
 replace H := Option.bind_eq_some_iff.mp H
 obtain ⟨⟨t450, t451⟩, A50, H⟩ := H
 replace H : ((spec_l1Rd_expr.f k t434 t451 t437 t440 t443 (wrap64 (1 + t448)) (wrap64 (1 + t450))).bind fun bt452 => ((spec_l1Rd_hurtDecl.f k t434 bt452.2 t437 t440 t443).bind fun bt456 => ((spec_l1Rd_hurtExpr.f k t434 bt456.2.2.2 bt452.1).bind fun bt466 => (some (bt456.1, bt456.2.1, bt456.2.2.1, bt466.1))))) = some (r1, r2, r3, r4) := H
 have A5 := Aside0.mk A50
 clear A50
 replace H := Option.bind_eq_some_iff.mp H
 obtain ⟨⟨t452, t455⟩, A60, H⟩ := H
 replace H : ((spec_l1Rd_hurtDecl.f k t434 t455 t437 t440 t443).bind fun bt456 => ((spec_l1Rd_hurtExpr.f k t434 bt456.2.2.2 t452).bind fun bt466 => (some (bt456.1, bt456.2.1, bt456.2.2.1, bt466.1)))) = some (r1, r2, r3, r4) := H
 have A6 := Aside0.mk A60
 clear A60
 replace H := Option.bind_eq_some_iff.mp H
 obtain ⟨⟨t456, t459, t462, t465⟩, A70, H⟩ := H
 replace H : ((spec_l1Rd_hurtExpr.f k t434 t465 t452).bind fun bt466 => (some (t456, t459, t462, bt466.1))) = some (r1, r2, r3, r4) := H
 have A7 := Aside0.mk A70
 clear A70
 replace H := Option.bind_eq_some_iff.mp H
 obtain ⟨⟨t466, t469⟩, A80, H⟩ := H
 replace H : (some (t456, t459, t462, t466)) = some (r1, r2, r3, r4) := H
 have A8 := Aside0.mk A80
 clear A80
 simp only [Option.some.injEq, Prod.mk.injEq] at H
 obtain ⟨rfl, rfl, rfl, rfl⟩ := H
 go_enter Tryd.func50, Tryd.ntmps50
 try go_wp2_with (first | ((with_reducible refine gate_dst (N := 2) rfl ?_); refine box_event rfl rfl (cs := #[.slice none 0 0, .slice none 0 0, .slice none 0 0]) (t := 30) (by first | (go_simp; done) | (go_simp; rfl)) ?_; intro gb433 hg w9 hbox hb; have BK433 := Aside0.mk (hbox); have GW433 := bz HB hg; have GE433 := bz HB hg; replace HB := bs HB hb; clear hb hbox hg) | ((with_reducible refine gate_callee (f := 97) rfl ?_); refine goesL_ (some 8) rfl rfl Tryd.func97 (by kernel_rfl) rfl #[.slice A0 l0.length c0] rfl (by (try simp only [List.map_toArray, List.map_cons, List.map_nil]); first | done | rfl | (simp only [List.length_drop, List.length_take]; rfl)) ?_; (with_reducible refine (spec_l1Open.calls _ _ l0 t434 t435 w _ ?side1 ?side2 ?side3 A2.out).mono ?_); (case side1 => repeat (first | (with_reducible first | exact HB.out | apply below_alloc | apply pw_below_drewN | apply below_drew1 | refine below_set ?_ GE433.out) | exact HB.out)); (case side2 => exact HR0.out); (case side3 => exact HC0.out); rintro e w10 ⟨g436, rfl, hi, hb, hb2⟩; refine ⟨_, rfl, ?_⟩; replace HB := Aside0.mk (hb); have HI436 := Aside0.mk (hi); have NB436_433 := Aside0.mk (IsS163.ne_blk hi (blk_below (bk BK433) hb2) (by decide)); have NB433_436 := Aside0.mk (Ne.symm (IsS163.ne_blk hi (blk_below (bk BK433) hb2) (by decide))); replace BK433 := Aside0.mk (blk_below (bk BK433) hb2); (try clear hb); (try clear hb2); (try clear hk); (try clear hi)) | ((with_reducible refine gate_callee (f := 98) rfl ?_); refine goesL_ (some 10) rfl rfl Tryd.func98 (by kernel_rfl) rfl #[.pointer (some ⟨g436, 0, none⟩)] rfl (by (try simp only [List.map_toArray, List.map_cons, List.map_nil]); first | done | rfl | (simp only [List.length_drop, List.length_take]; rfl)) ?_; (with_reducible refine (spec_l1Rd_decl.calls g436 t434 t435 t437 t440 t443 t446 w _ ?side1 ?side2 A3.out).mono ?_); (case side1 => exact IsS163.sk HI436); (case side2 => exact IsS163.bv HB); rintro e w11 ⟨v438, v441, v444, rfl, ho0, ho1, ho2, hi, hb, hk⟩; refine ⟨_, rfl, ?_⟩; replace BK433 := Aside0.mk (KeepBut.blk hk (g' := gb433) (o := .cells #[.slice none 0 0, .slice none 0 0, .slice none 0 0] 30 (0, 0)) (bk BK433) NB433_436.out (by simp)); have HO439 := Aside0.mk (Kd.R_lower ho0 (below_size (IsS163.bv HB))); have HO442 := Aside0.mk (Kd.R_lower ho1 (below_size (IsS163.bv HB))); have HO445 := Aside0.mk (Kd.R_lower ho2 (below_size (IsS163.bv HB))); replace HB := Aside0.mk (hb); replace HI436 := Aside0.mk (hi); (try clear hb); (try clear hb2); (try clear hk); (try clear hi); (try clear ho0); (try clear ho1); (try clear ho2)) | ((with_reducible refine gate_dst (N := 5) rfl ?_); refine box_event rfl rfl (cs := #[.slice none 0 0, .slice none 0 0, .slice none 0 0]) (t := 30) (by first | (go_simp; done) | (go_simp; rfl)) ?_; intro gb447 hg w12 hbox hb; replace HO439 := Aside0.mk (Kd.R_below (rk HO439) hb); replace HO442 := Aside0.mk (Kd.R_below (rk HO442) hb); replace HO445 := Aside0.mk (Kd.R_below (rk HO445) hb); have BK447 := Aside0.mk (hbox); have GW447 := Aside0.mk ((by rw [hg]; exact (below_size (IsS163.bv HB)) : w.heap.size ≤ gb447)); have GE447 := Aside0.mk ((by rw [hg]; exact (below_size (IsS163.bv HB)) : w.heap.size ≤ gb447)); replace HB := Aside0.mk (below_step (IsS163.bv HB) hb); have NB433_447 := bl BK433 hg; have NB447_433 := bg BK433 hg; replace BK433 := bb BK433 hb; have NB436_447 := Aside0.mk ((by rw [hg]; exact Nat.ne_of_lt (IsS163.lt (show IsS163 w _ g436 t434 t446 from IsS163.sk HI436)) : g436 ≠ gb447)); have NB447_436 := Aside0.mk ((by rw [hg]; exact Nat.ne_of_gt (IsS163.lt (show IsS163 w _ g436 t434 t446 from IsS163.sk HI436)) : gb447 ≠ g436)); replace HI436 := Aside0.mk (IsS163.below (IsS163.sk HI436) hb); clear hb hbox hg; obtain ⟨Ao13, co13, eo13⟩ := Kd.R_slice HO439.out; subst eo13; have hnb14 := NB447_433.out; have hnc14 := NB433_447.out; have hnb15 := NB447_436.out; have hnc15 := NB436_447.out; have hcz16_0 : w12.cell? ⟨gb447, 0, none⟩ = some (.slice none 0 0) := (blk_cell BK447.out 0).trans rfl; have hcz16_1 : w12.cell? ⟨gb447, 1, none⟩ = some (.slice none 0 0) := (blk_cell BK447.out 1).trans rfl; have hcz16_2 : w12.cell? ⟨gb447, 2, none⟩ = some (.slice none 0 0) := (blk_cell BK447.out 2).trans rfl; have hfz16_0 := blk_frozen BK447.out 0; have hfz16_1 := blk_frozen BK447.out 1; have hfz16_2 := blk_frozen BK447.out 2; obtain ⟨Ao17, co17, eo17⟩ := Kd.R_slice HO442.out; subst eo17; obtain ⟨Ao18, co18, eo18⟩ := Kd.R_slice HO445.out; subst eo18))
 have n0_ : Aside0 (Kd.R Kd.string 9 (((w12.setCell ⟨gb447, 0, none⟩ (.slice Ao13 t437.length co13)).setCell ⟨gb447, 1, none⟩ (.slice Ao17 t440.length co17)).setCell ⟨gb447, 2, none⟩ (.slice Ao18 t443.length co18)) w.heap.size (fun k_ => some k_ ≠ (.slice Ao17 t440.length co17 : Value).ownBlock) (.slice Ao13 t437.length co13) t437) := ⟨by (with_reducible repeat (first | apply Kd.R_alloc | apply Kd.R_drewN | apply Kd.R_drew)); exact Kd.R_mono (Kd.R_far (p := ⟨gb447, 2, none⟩) (Kd.R_far (p := ⟨gb447, 1, none⟩) (Kd.R_far (p := ⟨gb447, 0, none⟩) (Kd.R_types HO439.out BK447.out (by decide)) (fun _ hk => hk.2) (.slice Ao13 t437.length co13)) (fun _ hk => hk.2) (.slice Ao17 t440.length co17)) (fun _ hk => hk.2) (.slice Ao18 t443.length co18)) (fun _ hk => hk.1)⟩
 have n1_ : Aside0 (Kd.R Kd.string 9 (((w12.setCell ⟨gb447, 0, none⟩ (.slice Ao13 t437.length co13)).setCell ⟨gb447, 1, none⟩ (.slice Ao17 t440.length co17)).setCell ⟨gb447, 2, none⟩ (.slice Ao18 t443.length co18)) w.heap.size (fun k_ => some k_ ≠ (.slice Ao13 t437.length co13 : Value).ownBlock) (.slice Ao17 t440.length co17) t440) := ⟨by (with_reducible repeat (first | apply Kd.R_alloc | apply Kd.R_drewN | apply Kd.R_drew)); exact Kd.R_mono (Kd.R_far (p := ⟨gb447, 2, none⟩) (Kd.R_far (p := ⟨gb447, 1, none⟩) (Kd.R_far (p := ⟨gb447, 0, none⟩) (Kd.R_types HO442.out BK447.out (by decide)) (fun _ hk => hk.2) (.slice Ao13 t437.length co13)) (fun _ hk => hk.2) (.slice Ao17 t440.length co17)) (fun _ hk => hk.2) (.slice Ao18 t443.length co18)) (fun _ hk => hk.1)⟩
 have n2_ : Aside0 (Kd.R k91 91 (((w12.setCell ⟨gb447, 0, none⟩ (.slice Ao13 t437.length co13)).setCell ⟨gb447, 1, none⟩ (.slice Ao17 t440.length co17)).setCell ⟨gb447, 2, none⟩ (.slice Ao18 t443.length co18)) w.heap.size (fun _ => True) (.slice Ao18 t443.length co18) t443) := ⟨by (with_reducible repeat (first | apply Kd.R_alloc | apply Kd.R_drewN | apply Kd.R_drew)); exact Kd.R_mono (Kd.R_far (p := ⟨gb447, 2, none⟩) (Kd.R_far (p := ⟨gb447, 1, none⟩) (Kd.R_far (p := ⟨gb447, 0, none⟩) (Kd.R_types HO445.out BK447.out (by decide)) (fun _ hk => hk.2) (.slice Ao13 t437.length co13)) (fun _ hk => hk.2) (.slice Ao17 t440.length co17)) (fun _ hk => hk.2) (.slice Ao18 t443.length co18)) (fun _ hk => trivial)⟩
 have n3_ : Aside0 ((((w12.setCell ⟨gb447, 0, none⟩ (.slice Ao13 t437.length co13)).setCell ⟨gb447, 1, none⟩ (.slice Ao17 t440.length co17)).setCell ⟨gb447, 2, none⟩ (.slice Ao18 t443.length co18)).heap[gb433]? = some (.cells #[.slice none 0 0, .slice none 0 0, .slice none 0 0] 30 (0, 0))) := ⟨bx BK433⟩
 have n4_ : Aside0 ((((w12.setCell ⟨gb447, 0, none⟩ (.slice Ao13 t437.length co13)).setCell ⟨gb447, 1, none⟩ (.slice Ao17 t440.length co17)).setCell ⟨gb447, 2, none⟩ (.slice Ao18 t443.length co18)).heap[gb447]? = some (.cells #[.slice Ao13 t437.length co13, .slice Ao17 t440.length co17, .slice Ao18 t443.length co18] 30 (0, 0))) := ⟨by (with_reducible repeat (first | refine blk_drewN ?_ _ | refine blk_drew ?_ | refine blk_alloc ?_ _)); refine blk_put (cs := #[.slice Ao13 t437.length co13, .slice Ao17 t440.length co17, .slice none 0 0]) ?_ 2 _ rfl; (with_reducible repeat (first | refine blk_drewN ?_ _ | refine blk_drew ?_ | refine blk_alloc ?_ _)); refine blk_put (cs := #[.slice Ao13 t437.length co13, .slice none 0 0, .slice none 0 0]) ?_ 1 _ rfl; (with_reducible repeat (first | refine blk_drewN ?_ _ | refine blk_drew ?_ | refine blk_alloc ?_ _)); refine blk_put (cs := #[.slice none 0 0, .slice none 0 0, .slice none 0 0]) ?_ 0 _ rfl; (with_reducible repeat (first | refine blk_drewN ?_ _ | refine blk_drew ?_ | refine blk_alloc ?_ _)); exact BK447.out⟩
 have n5_ : Aside0 (IsS163 w (((w12.setCell ⟨gb447, 0, none⟩ (.slice Ao13 t437.length co13)).setCell ⟨gb447, 1, none⟩ (.slice Ao17 t440.length co17)).setCell ⟨gb447, 2, none⟩ (.slice Ao18 t443.length co18)) g436 t434 t446) := ⟨IsS163.sk HI436⟩
 have n6_ : Aside0 (Below w.heap.size w (((w12.setCell ⟨gb447, 0, none⟩ (.slice Ao13 t437.length co13)).setCell ⟨gb447, 1, none⟩ (.slice Ao17 t440.length co17)).setCell ⟨gb447, 2, none⟩ (.slice Ao18 t443.length co18))) := ⟨IsS163.bv HB⟩
 (try clear HO439)
 (try clear HO442)
 (try clear HO445)
 (try clear BK433)
 (try clear BK447)
 (try clear HI436)
 (try clear HB)
 generalize (((w12.setCell ⟨gb447, 0, none⟩ (.slice Ao13 t437.length co13)).setCell ⟨gb447, 1, none⟩ (.slice Ao17 t440.length co17)).setCell ⟨gb447, 2, none⟩ (.slice Ao18 t443.length co18)) = w19 at n0_ n1_ n2_ n3_ n4_ n5_ n6_ ⊢
 have HO439 := n0_
 have HO442 := n1_
 have HO445 := n2_
 have BK433 := n3_
 have BK447 := n4_
 have HI436 := n5_
 have HB := n6_
 clear n0_ n1_ n2_ n3_ n4_ n5_ n6_
 have n0_ := Aside0.mk (Kd.R_drew HO439.out)
 have n1_ := Aside0.mk (Kd.R_drew HO442.out)
 have n2_ := Aside0.mk (Kd.R_drew HO445.out)
 have n3_ := Aside0.mk (blk_drew BK433.out)
 have n4_ := Aside0.mk (blk_drew BK447.out)
 have n5_ := Aside0.mk (IsS163.drew HI436.out)
 have n6_ := Aside0.mk (below_drew1 HB.out)
 clear HO439
 clear HO442
 clear HO445
 clear BK433
 clear BK447
 clear HI436
 clear HB
 have HO439 := n0_
 have HO442 := n1_
 have HO445 := n2_
 have BK433 := n3_
 have BK447 := n4_
 have HI436 := n5_
 have HB := n6_
 clear n0_ n1_ n2_ n3_ n4_ n5_ n6_
 refine start_ (n := 10) (S := fun w' => w'.cell? ⟨gb447, 0, none⟩ = some (.slice Ao13 t437.length co13) ∧ w'.cell? ⟨gb447, 1, none⟩ = some (.slice Ao17 t440.length co17) ∧ w'.cell? ⟨gb447, 2, none⟩ = some (.slice Ao18 t443.length co18)) (ds := []) #[false, false, false, false, false, false, false, false, false, false] (by kernel_rfl) rfl rfl ⟨(blk_cell BK447.out 0).trans rfl, (blk_cell BK447.out 1).trans rfl, (blk_cell BK447.out 2).trans rfl⟩ (fun hHeld => ?_); refine with_tabW spec_DrawExprOk.tab3 spec_DrawExprOk.bits3 (fun HT_ HW_ => ?_)
 generalize w19.drew = w20 at HO439 HO442 HO445 BK433 BK447 HI436 HB hHeld ⊢
 refine pure_ (i := 0) (N := some 11) (v := ?_) (a' := ?_) #[true, false, false, false, false, false, false, false, false, false] rfl rfl (any_of HT_.out (by kernel_rfl)) (fun _ _ _ h => h) (Or.inl ⟨by rfl, ?_⟩) ?_ ?_
 rotate_left
 ·intro w'
  go_simp
  with_reducible rfl
 rotate_left
 ·simp only [Act.put, List.setIfInBounds_toArray, List.set_cons_zero, List.set_cons_succ, i64_w, i32_w]
  rfl
 refine pure_ (i := 2) (N := some 13) (v := ?_) (a' := ?_) #[true, false, true, false, false, false, false, false, false, false] rfl rfl (any_of HT_.out (by kernel_rfl)) (fun _ _ _ h => h) (Or.inl ⟨by rfl, ?_⟩) ?_ ?_
 rotate_left
 ·intro w'
  go_simp
  with_reducible rfl
 rotate_left
 ·simp only [Act.put, List.setIfInBounds_toArray, List.set_cons_zero, List.set_cons_succ, i64_w, i32_w]
  rfl
 refine pure_ (i := 5) (N := some 16) (v := ?_) (a' := ?_) #[true, false, true, false, false, true, false, false, false, false] rfl rfl (any_of HT_.out (by kernel_rfl)) (fun _ _ _ h => h) (Or.inl ⟨by rfl, ?_⟩) ?_ ?_
 rotate_left
 ·intro w'
  go_simp
  with_reducible rfl
 rotate_left
 ·simp only [Act.put, List.setIfInBounds_toArray, List.set_cons_zero, List.set_cons_succ, i64_w, i32_w]
  rfl
 refine take_ (i := 1) (N := some 12) (v := ?_) (a' := ?_) #[true, true, true, false, false, true, false, false, false, false] rfl rfl (take_ofW HT_.out HW_.out (by kernel_rfl)) (fun _ _ _ h => h) (Or.inl ⟨by rfl, ?_⟩) hHeld ?_ ?_
 rotate_left
 ·rintro w' ⟨s0, s1, s2⟩
  go_simp
  with_reducible rfl
 rotate_left
 ·simp only [Act.put, List.setIfInBounds_toArray, List.set_cons_zero, List.set_cons_succ, i64_w, i32_w]
  rfl
 refine one_ (i := 3) (N := some 14) #[true, true, true, true, false, true, false, false, false, false] rfl rfl (one_of HT_.out (by kernel_rfl)) (by decide) (fun K hK => ?_)
 refine goes_ Tryd.func109 (by kernel_rfl) rfl #[.pointer (some ⟨g436, 0, none⟩), .int .i64 2] (by rfl) rfl rfl (by (try simp only [List.map_toArray, List.map_cons, List.map_nil]); first | done | rfl | (simp only [List.length_drop, List.length_take]; rfl)) ?_
 with_reducible refine (spec_l1Rd_below.calls g436 t434 t446 2 t448 t449 w _ ?side1 ?side2 A4.out).mono ?_
 (case side1 => exact IsS163.sk HI436)
 (case side2 => exact IsS163.bv HB)
 rintro e w21 ⟨rfl, hi, hb, hk⟩
 refine ⟨_, rfl, ?_⟩
 have n0_ := Aside0.mk (KeepBut.blk hk (g' := gb433) (o := .cells #[.slice none 0 0, .slice none 0 0, .slice none 0 0] 30 (0, 0)) (bk BK433) NB433_436.out (by simp))
 have n1_ := Aside0.mk (Kd.R_mono (Kd.R_keep (IsS163.apart (show IsS163 w _ g436 t434 t446 from IsS163.sk HI436) (rk HO439) (by decide)) hk (fun _ h => h.2)) (fun _ h => h.1))
 have n2_ := Aside0.mk (Kd.R_mono (Kd.R_keep (IsS163.apart (show IsS163 w _ g436 t434 t446 from IsS163.sk HI436) (rk HO442) (by decide)) hk (fun _ h => h.2)) (fun _ h => h.1))
 have n3_ := Aside0.mk (Kd.R_mono (Kd.R_keep (IsS163.apart (show IsS163 w _ g436 t434 t446 from IsS163.sk HI436) (rk HO445) (by decide)) hk (fun _ h => h.2)) (fun _ h => h.1))
 have n4_ := Aside0.mk (KeepBut.blk hk (g' := gb447) (o := .cells #[.slice Ao13 t437.length co13, .slice Ao17 t440.length co17, .slice Ao18 t443.length co18] 30 (0, 0)) (bk BK447) NB447_436.out (by simp))
 have n5_ := Aside0.mk (hb)
 have n6_ := Aside0.mk (hi)
 clear BK433
 clear HO439
 clear HO442
 clear HO445
 clear BK447
 clear HB
 clear HI436
 have BK433 := n0_
 have HO439 := n1_
 have HO442 := n2_
 have HO445 := n3_
 have BK447 := n4_
 have HB := n5_
 have HI436 := n6_
 clear n0_ n1_ n2_ n3_ n4_ n5_ n6_
 (try clear hb)
 (try clear hb2)
 (try clear hk)
 (try clear hi)
 refine hK.out _ _ ⟨(blk_cell BK447.out 0).trans rfl, (blk_cell BK447.out 1).trans rfl, (blk_cell BK447.out 2).trans rfl⟩ (fun hHeld => ?_)
 clear hK K
 refine norm_ (a' := ?_) ?_ ?_
 rotate_left
 ·show Act.put _ (some 14) _ = _
  simp only [Act.put, List.setIfInBounds_toArray, List.set_cons_zero, List.set_cons_succ, i64_w, i32_w]
  rfl
 refine pure_ (i := 4) (N := some 15) (v := ?_) (a' := ?_) #[true, true, true, true, true, true, false, false, false, false] rfl rfl (any_of HT_.out (by kernel_rfl)) (fun _ _ _ h => h) (Or.inl ⟨by rfl, ?_⟩) ?_ ?_
 rotate_left
 ·intro w'
  go_simp
  with_reducible rfl
 rotate_left
 ·simp only [Act.put, List.setIfInBounds_toArray, List.set_cons_zero, List.set_cons_succ, i64_w, i32_w]
  rfl
 refine one_ (i := 6) (N := some 17) #[true, true, true, true, true, true, true, false, false, false] rfl rfl (one_of HT_.out (by kernel_rfl)) (by decide) (fun K hK => ?_)
 refine goes_ Tryd.func109 (by kernel_rfl) rfl #[.pointer (some ⟨g436, 0, none⟩), .int .i64 3] (by rfl) rfl rfl (by (try simp only [List.map_toArray, List.map_cons, List.map_nil]); first | done | rfl | (simp only [List.length_drop, List.length_take]; rfl)) ?_
 with_reducible refine (spec_l1Rd_below.calls g436 t434 t449 3 t450 t451 w _ ?side1 ?side2 A5.out).mono ?_
 (case side1 => exact IsS163.sk HI436)
 (case side2 => exact IsS163.bv HB)
 rintro e w22 ⟨rfl, hi, hb, hk⟩
 refine ⟨_, rfl, ?_⟩
 have n0_ := Aside0.mk (KeepBut.blk hk (g' := gb433) (o := .cells #[.slice none 0 0, .slice none 0 0, .slice none 0 0] 30 (0, 0)) (bk BK433) NB433_436.out (by simp))
 have n1_ := Aside0.mk (Kd.R_mono (Kd.R_keep (IsS163.apart (show IsS163 w _ g436 t434 t449 from IsS163.sk HI436) (rk HO439) (by decide)) hk (fun _ h => h.2)) (fun _ h => h.1))
 have n2_ := Aside0.mk (Kd.R_mono (Kd.R_keep (IsS163.apart (show IsS163 w _ g436 t434 t449 from IsS163.sk HI436) (rk HO442) (by decide)) hk (fun _ h => h.2)) (fun _ h => h.1))
 have n3_ := Aside0.mk (Kd.R_mono (Kd.R_keep (IsS163.apart (show IsS163 w _ g436 t434 t449 from IsS163.sk HI436) (rk HO445) (by decide)) hk (fun _ h => h.2)) (fun _ h => h.1))
 have n4_ := Aside0.mk (KeepBut.blk hk (g' := gb447) (o := .cells #[.slice Ao13 t437.length co13, .slice Ao17 t440.length co17, .slice Ao18 t443.length co18] 30 (0, 0)) (bk BK447) NB447_436.out (by simp))
 have n5_ := Aside0.mk (hb)
 have n6_ := Aside0.mk (hi)
 clear BK433
 clear HO439
 clear HO442
 clear HO445
 clear BK447
 clear HB
 clear HI436
 have BK433 := n0_
 have HO439 := n1_
 have HO442 := n2_
 have HO445 := n3_
 have BK447 := n4_
 have HB := n5_
 have HI436 := n6_
 clear n0_ n1_ n2_ n3_ n4_ n5_ n6_
 (try clear hb)
 (try clear hb2)
 (try clear hk)
 (try clear hi)
 refine hK.out _ _ ⟨(blk_cell BK447.out 0).trans rfl, (blk_cell BK447.out 1).trans rfl, (blk_cell BK447.out 2).trans rfl⟩ (fun hHeld => ?_)
 clear hK K
 refine norm_ (a' := ?_) ?_ ?_
 rotate_left
 ·show Act.put _ (some 17) _ = _
  simp only [Act.put, List.setIfInBounds_toArray, List.set_cons_zero, List.set_cons_succ, i64_w, i32_w]
  rfl
 refine pure_ (i := 7) (N := some 18) (v := ?_) (a' := ?_) #[true, true, true, true, true, true, true, true, false, false] rfl rfl (any_of HT_.out (by kernel_rfl)) (fun _ _ _ h => h) (Or.inl ⟨by rfl, ?_⟩) ?_ ?_
 rotate_left
 ·intro w'
  go_simp
  with_reducible rfl
 rotate_left
 ·simp only [Act.put, List.setIfInBounds_toArray, List.set_cons_zero, List.set_cons_succ, i64_w, i32_w]
  rfl
 refine one_ (i := 8) (N := some 19) #[true, true, true, true, true, true, true, true, true, false] rfl rfl (one_of HT_.out (by kernel_rfl)) (by decide) (fun K hK => ?_)
 refine goes_ Tryd.func108 (by kernel_rfl) rfl #[.pointer (some ⟨g436, 0, none⟩), .agg #[.slice Ao13 t437.length co13, .slice Ao17 t440.length co17, .slice Ao18 t443.length co18], .int .i64 (wrap64 (1 + t448)), .int .i64 (wrap64 (1 + t450))] (by rfl) rfl rfl (by (try simp only [List.map_toArray, List.map_cons, List.map_nil]); first | done | rfl | (simp only [List.length_drop, List.length_take]; rfl)) ?_
 with_reducible refine (spec_l1Rd_expr.calls k g436 t434 t451 _ _ t437 _ _ t440 _ _ t443 (wrap64 (1 + t448)) (wrap64 (1 + t450)) t452 t455 w _ ?side1 ?side2 ?side3 ?side4 ?side5 ?side6 ?side7 ?side8 ?side9 ?side10 A6.out).mono ?_
 (case side1 => exact IsS163.sk HI436)
 (case side2 => exact IsS163.bv HB)
 (case side3 => repeat (first | exact (Kd.R_reads' HO439.out).2.2 | (with_reducible refine Kd.C_alloc ?_ _) | (with_reducible refine Kd.C_drewN ?_ _) | (with_reducible refine Kd.C_drew ?_)))
 (case side4 => exact (Kd.R_reads' HO439.out).2.1)
 (case side5 => exact far_slice (IsS163.own_ne HI436.out HO439.out (by decide)))
 (case side6 => repeat (first | exact (Kd.R_reads' HO442.out).2.2 | (with_reducible refine Kd.C_alloc ?_ _) | (with_reducible refine Kd.C_drewN ?_ _) | (with_reducible refine Kd.C_drew ?_)))
 (case side7 => exact (Kd.R_reads' HO442.out).2.1)
 (case side8 => exact far_slice (IsS163.own_ne HI436.out HO442.out (by decide)))
 (case side9 => exact Kd.C_foot_own (IsS163.apart (show IsS163 w _ g436 t434 t451 from IsS163.sk HI436) (rk HO445) (by decide)) (fun _ h_ => h_.2))
 (case side10 => exact (Kd.R_reads' HO445.out).2.1)
 rintro e w23 ⟨v453, rfl, ho0, hi, hb, hk⟩
 refine ⟨_, rfl, ?_⟩
 have n0_ := Aside0.mk (KeepBut.blk hk (g' := gb433) (o := .cells #[.slice none 0 0, .slice none 0 0, .slice none 0 0] 30 (0, 0)) (bk BK433) NB433_436.out (by simp))
 have n1_ := Aside0.mk (Kd.R_mono (Kd.R_keep (IsS163.apart (show IsS163 w _ g436 t434 t451 from IsS163.sk HI436) (rk HO439) (by decide)) hk (fun _ h => h.2)) (fun _ h => h.1))
 have n2_ := Aside0.mk (Kd.R_mono (Kd.R_keep (IsS163.apart (show IsS163 w _ g436 t434 t451 from IsS163.sk HI436) (rk HO442) (by decide)) hk (fun _ h => h.2)) (fun _ h => h.1))
 have n3_ := Aside0.mk (Kd.R_mono (Kd.R_keep (IsS163.apart (show IsS163 w _ g436 t434 t451 from IsS163.sk HI436) (rk HO445) (by decide)) hk (fun _ h => h.2)) (fun _ h => h.1))
 have n4_ := Aside0.mk (KeepBut.blk hk (g' := gb447) (o := .cells #[.slice Ao13 t437.length co13, .slice Ao17 t440.length co17, .slice Ao18 t443.length co18] 30 (0, 0)) (bk BK447) NB447_436.out (by simp))
 have n5_ := Aside0.mk (Kd.R_lower ho0 (below_size (IsS163.bv HB)))
 have n6_ := Aside0.mk (hb)
 have n7_ := Aside0.mk (hi)
 clear BK433
 clear HO439
 clear HO442
 clear HO445
 clear BK447
 clear HB
 clear HI436
 have BK433 := n0_
 have HO439 := n1_
 have HO442 := n2_
 have HO445 := n3_
 have BK447 := n4_
 have HO454 := n5_
 have HB := n6_
 have HI436 := n7_
 clear n0_ n1_ n2_ n3_ n4_ n5_ n6_ n7_
 (try clear hb)
 (try clear hb2)
 (try clear hk)
 (try clear hi)
 (try clear ho0)
 refine hK.out _ _ ⟨(blk_cell BK447.out 0).trans rfl, (blk_cell BK447.out 1).trans rfl, (blk_cell BK447.out 2).trans rfl⟩ (fun hHeld => ?_)
 clear hK K
 refine norm_ (a' := ?_) ?_ ?_
 rotate_left
 ·show Act.put _ (some 19) _ = _
  simp only [Act.put, List.setIfInBounds_toArray, List.set_cons_zero, List.set_cons_succ, i64_w, i32_w]
  rfl
 refine pure_ (i := 9) (N := some 6) (v := ?_) (a' := ?_) #[true, true, true, true, true, true, true, true, true, true] rfl rfl (any_of HT_.out (by kernel_rfl)) (fun _ _ _ h => h) (Or.inl ⟨by rfl, ?_⟩) ?_ ?_
 rotate_left
 ·intro w'
  go_simp
  with_reducible rfl
 rotate_left
 ·simp only [Act.put, List.setIfInBounds_toArray, List.set_cons_zero, List.set_cons_succ, i64_w, i32_w]
  rfl
 refine done_ (done_of HT_.out (by kernel_rfl)) ?_
 have hcz24_0 : w23.cell? ⟨gb447, 0, none⟩ = some (.slice Ao13 t437.length co13) := (blk_cell BK447.out 0).trans rfl
 have hcz24_1 : w23.cell? ⟨gb447, 1, none⟩ = some (.slice Ao17 t440.length co17) := (blk_cell BK447.out 1).trans rfl
 have hcz24_2 : w23.cell? ⟨gb447, 2, none⟩ = some (.slice Ao18 t443.length co18) := (blk_cell BK447.out 2).trans rfl
 have hfz24_0 := blk_frozen BK447.out 0
 have hfz24_1 := blk_frozen BK447.out 1
 have hfz24_2 := blk_frozen BK447.out 2
 try go_wp2_with (first | ((with_reducible refine gate_callee (f := 110) rfl ?_); refine goesL_ (some 22) rfl rfl Tryd.func110 (by kernel_rfl) rfl #[.pointer (some ⟨g436, 0, none⟩), .agg #[.slice Ao13 t437.length co13, .slice Ao17 t440.length co17, .slice Ao18 t443.length co18]] rfl (by (try simp only [List.map_toArray, List.map_cons, List.map_nil]); first | done | rfl | (simp only [List.length_drop, List.length_take]; rfl)) ?_; (with_reducible refine (spec_l1Rd_hurtDecl.calls k g436 t434 t455 (fun k_ => some k_ = (.slice Ao13 t437.length co13 : Value).ownBlock) (.slice Ao13 t437.length co13) t437 (fun k_ => some k_ = (.slice Ao17 t440.length co17 : Value).ownBlock) (.slice Ao17 t440.length co17) t440 (fun k_ => some k_ = (.slice Ao18 t443.length co18 : Value).ownBlock) (.slice Ao18 t443.length co18) t443 t456 t459 t462 t465 w _ ?side1 ?side2 ?side3 ?side4 ?side5 ?side6 ?side7 A7.out).mono ?_); (case side1 => exact IsS163.sk HI436); (case side2 => exact IsS163.bv HB); (case side3 => exact Kd.R_tight rfl HO439.out); (case side4 => exact fun k_ e_ => (HO439.out.1 k_ e_.symm)); (case side5 => exact Kd.R_tight rfl HO442.out); (case side6 => exact fun k_ e_ => (HO442.out.1 k_ e_.symm)); (case side7 => exact Kd.R_tight rfl HO445.out); rintro e w25 ⟨v457, v460, v463, rfl, ho0, ho1, ho2, hi, hb, hkp⟩; refine ⟨_, rfl, ?_⟩; have n0_ := Aside0.mk (blk_kept (bk BK433) hkp (fun hs_ => Or.elim hs_ (fun hs_ => Or.elim hs_ (fun e_ => (fun e_ => (Kd.R_ne HO439.out BK433.out (by decide)) e_) e_) (fun e_ => Or.elim e_ (fun e_ => (fun e_ => (Kd.R_ne HO442.out BK433.out (by decide)) e_) e_) (fun e_ => (fun e_ => (Kd.R_ne HO445.out BK433.out (by decide)) e_) e_))) (fun e_ => NB433_436.out e_))); have n1_ := Aside0.mk (hi); have n2_ := Aside0.mk (blk_kept (bk BK447) hkp (fun hs_ => Or.elim hs_ (fun hs_ => Or.elim hs_ (fun e_ => (fun e_ => (Kd.R_ne HO439.out BK447.out (by decide)) e_) e_) (fun e_ => Or.elim e_ (fun e_ => (fun e_ => (Kd.R_ne HO442.out BK447.out (by decide)) e_) e_) (fun e_ => (fun e_ => (Kd.R_ne HO445.out BK447.out (by decide)) e_) e_))) (fun e_ => NB447_436.out e_))); have n3_ := Aside0.mk (Kd.R_mono (ok' := fun k_ => True) (Kd.R_keptB ((IsS163.apart HI436.out (Kd.R_apart' (Kd.R_apart' (Kd.R_apart' HO454.out (Kd.R_typed HO439.out) (by decide)) (Kd.R_typed HO442.out) (by decide)) (Kd.R_typed HO445.out) (by decide)) (by decide))) hkp (fun k_ hk_ hs_ => Or.elim hs_ (fun hs_ => Or.elim hs_ (fun e_ => (hk_.1.1.1.2) e_) (fun e_ => Or.elim e_ (fun e_ => (hk_.1.1.2) e_) (fun e_ => (hk_.1.2) e_))) (fun e_ => (hk_.2) e_))) (fun k_ hk_ => trivial)); have n4_ := Aside0.mk (Kd.R_mono (ok' := fun k_ => some k_ ≠ (v460 : Value).ownBlock) ho0 (fun k_ hk_ => hk_.2)); have n5_ := Aside0.mk (Kd.R_mono (ok' := fun k_ => some k_ ≠ (v457 : Value).ownBlock) ho1 (fun k_ hk_ => hk_.2)); have n6_ := Aside0.mk (Kd.R_mono (ok' := fun k_ => True) ho2 (fun k_ hk_ => trivial)); have n7_ := Aside0.mk (hb); clear BK433; clear HI436; clear BK447; clear HO454; clear HB; clear HO439; clear HO442; clear HO445; have BK433 := n0_; have HI436 := n1_; have BK447 := n2_; have HO454 := n3_; have HO458 := n4_; have HO461 := n5_; have HO464 := n6_; have HB := n7_; clear n0_ n1_ n2_ n3_ n4_ n5_ n6_ n7_; (try clear hb); (try clear hkp); (try clear ho0); (try clear ho1); (try clear ho2); obtain ⟨Ao26, co26, eo26⟩ := Kd.R_slice HO454.out; subst eo26) | ((with_reducible refine gate_callee (f := 111) rfl ?_); refine goesL_ (some 25) rfl rfl Tryd.func111 (by kernel_rfl) rfl #[.pointer (some ⟨g436, 0, none⟩), .slice Ao26 t452.length co26] rfl (by (try simp only [List.map_toArray, List.map_cons, List.map_nil]); first | done | rfl | (simp only [List.length_drop, List.length_take]; rfl)) ?_; (with_reducible refine (spec_l1Rd_hurtExpr.calls k g436 t434 t465 (fun k_ => some k_ = (.slice Ao26 t452.length co26 : Value).ownBlock) (.slice Ao26 t452.length co26) t452 t466 t469 w _ ?side1 ?side2 ?side3 A8.out).mono ?_); (case side1 => exact IsS163.sk HI436); (case side2 => exact IsS163.bv HB); (case side3 => exact Kd.R_tight rfl HO454.out); rintro e w27 ⟨v467, rfl, ho0, hi, hb, hkp⟩; refine ⟨_, rfl, ?_⟩; have n0_ := Aside0.mk (blk_kept (bk BK433) hkp (fun hs_ => Or.elim hs_ (fun hs_ => (fun e_ => (Kd.R_ne HO454.out BK433.out (by decide)) e_) hs_) (fun e_ => NB433_436.out e_))); have n1_ := Aside0.mk (hi); have n2_ := Aside0.mk (blk_kept (bk BK447) hkp (fun hs_ => Or.elim hs_ (fun hs_ => (fun e_ => (Kd.R_ne HO454.out BK447.out (by decide)) e_) hs_) (fun e_ => NB447_436.out e_))); have n3_ := Aside0.mk (Kd.R_mono (ok' := fun k_ => some k_ ≠ (v460 : Value).ownBlock) (Kd.R_keptB ((IsS163.apart HI436.out (Kd.R_apart' HO458.out (Kd.R_typed HO454.out) (by decide)) (by decide))) hkp (fun k_ hk_ hs_ => Or.elim hs_ (fun hs_ => (hk_.1.2) hs_) (fun e_ => (hk_.2) e_))) (fun k_ hk_ => hk_.1.1.1)); have n4_ := Aside0.mk (Kd.R_mono (ok' := fun k_ => some k_ ≠ (v457 : Value).ownBlock) (Kd.R_keptB ((IsS163.apart HI436.out (Kd.R_apart' HO461.out (Kd.R_typed HO454.out) (by decide)) (by decide))) hkp (fun k_ hk_ hs_ => Or.elim hs_ (fun hs_ => (hk_.1.2) hs_) (fun e_ => (hk_.2) e_))) (fun k_ hk_ => hk_.1.1.1)); have n5_ := Aside0.mk (Kd.R_mono (ok' := fun k_ => True) (Kd.R_keptB ((IsS163.apart HI436.out (Kd.R_apart' HO464.out (Kd.R_typed HO454.out) (by decide)) (by decide))) hkp (fun k_ hk_ hs_ => Or.elim hs_ (fun hs_ => (hk_.1.2) hs_) (fun e_ => (hk_.2) e_))) (fun k_ hk_ => trivial)); have n6_ := Aside0.mk (Kd.R_mono (ok' := fun k_ => True) ho0 (fun k_ hk_ => trivial)); have n7_ := Aside0.mk (hb); clear BK433; clear HI436; clear BK447; clear HO458; clear HO461; clear HO464; clear HB; clear HO454; have BK433 := n0_; have HI436 := n1_; have BK447 := n2_; have HO458 := n3_; have HO461 := n4_; have HO464 := n5_; have HO468 := n6_; have HB := n7_; clear n0_ n1_ n2_ n3_ n4_ n5_ n6_ n7_; (try clear hb); (try clear hkp); (try clear ho0); obtain ⟨Ao28, co28, eo28⟩ := Kd.R_slice HO458.out; subst eo28; have hnb29 := NB433_436.out; have hnc29 := NB436_433.out; have hcz30_0 : w27.cell? ⟨gb433, 0, none⟩ = some (.slice none 0 0) := (blk_cell BK433.out 0).trans rfl; have hcz30_1 : w27.cell? ⟨gb433, 1, none⟩ = some (.slice none 0 0) := (blk_cell BK433.out 1).trans rfl; have hcz30_2 : w27.cell? ⟨gb433, 2, none⟩ = some (.slice none 0 0) := (blk_cell BK433.out 2).trans rfl; have hfz30_0 := blk_frozen BK433.out 0; have hfz30_1 := blk_frozen BK433.out 1; have hfz30_2 := blk_frozen BK433.out 2; obtain ⟨Ao31, co31, eo31⟩ := Kd.R_slice HO461.out; subst eo31; obtain ⟨Ao32, co32, eo32⟩ := Kd.R_slice HO464.out; subst eo32))
 refine bodyPost_ret (results_ct rfl _ _ gb433 30 #[.slice Ao28 t456.length co28, .slice Ao31 t459.length co31, .slice Ao32 t462.length co32] (0, 0) _ rfl (by (with_reducible repeat (first | refine blk_drewN ?_ _ | refine blk_drew ?_ | refine blk_alloc ?_ _)); refine blk_put (cs := #[.slice Ao28 t456.length co28, .slice Ao31 t459.length co31, .slice none 0 0]) ?_ 2 _ rfl; (with_reducible repeat (first | refine blk_drewN ?_ _ | refine blk_drew ?_ | refine blk_alloc ?_ _)); refine blk_put (cs := #[.slice Ao28 t456.length co28, .slice none 0 0, .slice none 0 0]) ?_ 1 _ rfl; (with_reducible repeat (first | refine blk_drewN ?_ _ | refine blk_drew ?_ | refine blk_alloc ?_ _)); refine blk_put (cs := #[.slice none 0 0, .slice none 0 0, .slice none 0 0]) ?_ 0 _ rfl; (with_reducible repeat (first | refine blk_drewN ?_ _ | refine blk_drew ?_ | refine blk_alloc ?_ _)); exact BK433.out) Tryd.underlying30 rfl (by kernel_rfl)) rfl ?_
 exact ⟨_, _, _, _, by first | rfl | (simp [errW_none, errW_some] <;> rfl) | (simp [*, errW_none, errW_some] <;> rfl), by (with_reducible repeat (first | apply Kd.R_alloc | apply Kd.R_drewN | apply Kd.R_drew)); exact Kd.R_mono (Kd.R_far (p := ⟨gb433, 2, none⟩) (Kd.R_far (p := ⟨gb433, 1, none⟩) (Kd.R_far (p := ⟨gb433, 0, none⟩) (Kd.R_types HO458.out BK433.out (by decide)) (fun _ hk => hk.2) (.slice Ao28 t456.length co28)) (fun _ hk => hk.2) (.slice Ao31 t459.length co31)) (fun _ hk => hk.2) (.slice Ao32 t462.length co32)) (fun _ hk => hk.1), by (with_reducible repeat (first | apply Kd.R_alloc | apply Kd.R_drewN | apply Kd.R_drew)); exact Kd.R_mono (Kd.R_far (p := ⟨gb433, 2, none⟩) (Kd.R_far (p := ⟨gb433, 1, none⟩) (Kd.R_far (p := ⟨gb433, 0, none⟩) (Kd.R_types HO461.out BK433.out (by decide)) (fun _ hk => hk.2) (.slice Ao28 t456.length co28)) (fun _ hk => hk.2) (.slice Ao31 t459.length co31)) (fun _ hk => hk.2) (.slice Ao32 t462.length co32)) (fun _ hk => hk.1), by (with_reducible repeat (first | apply Kd.R_alloc | apply Kd.R_drewN | apply Kd.R_drew)); exact Kd.R_mono (Kd.R_far (p := ⟨gb433, 2, none⟩) (Kd.R_far (p := ⟨gb433, 1, none⟩) (Kd.R_far (p := ⟨gb433, 0, none⟩) (Kd.R_types HO464.out BK433.out (by decide)) (fun _ hk => hk.2) (.slice Ao28 t456.length co28)) (fun _ hk => hk.2) (.slice Ao31 t459.length co31)) (fun _ hk => hk.2) (.slice Ao32 t462.length co32)) (fun _ hk => trivial), by (with_reducible repeat (first | apply Kd.R_alloc | apply Kd.R_drewN | apply Kd.R_drew)); exact Kd.R_mono (Kd.R_far (p := ⟨gb433, 2, none⟩) (Kd.R_far (p := ⟨gb433, 1, none⟩) (Kd.R_far (p := ⟨gb433, 0, none⟩) (Kd.R_types HO468.out BK433.out (by decide)) (fun _ hk => hk.2) (.slice Ao28 t456.length co28)) (fun _ hk => hk.2) (.slice Ao31 t459.length co31)) (fun _ hk => hk.2) (.slice Ao32 t462.length co32)) (fun _ hk => trivial), IsS163.bv HB⟩

end Go.Proofs.YtcomagipdbdglaaDoor.Q
