-- Contracts of the program's functions, each with the plain function that it computes.
import Derived.Test.YtdjhalelgknnkaaQx0
import Derived.Test.YtdjhalelgknnkaaQx2
import Derived.Test.YtdjhalelgknnkaaQx10
import Derived.Test.YtdjhalelgknnkaaQx14
import Derived.Test.YtdjhalelgknnkaaQx17
namespace Go.Proofs.Ytdjhalelgknnkaa.Q
open Go.RowKit Go.Proofs.YtdjhalelgknnkaaW.PrintWords Go.Proofs.YtdjhalelgknnkaaW.PrintLast Go.Proofs.YtdjhalelgknnkaaW.PrintMore
attribute [local go_sem] max2_int min2_int max_two min_two max_three min_three max_four min_four   -- for this text's walks alone
theorem impl_IvRem.cell_isSome (w : World) (a b : Addr) (u : Value) : ((w.setCell a u).cell? b).isSome = (w.cell? b).isSome := by
 by_cases h : a = b
 ·subst h
  simp only [World.setCell, World.cell?, Array.getElem?_modify, if_true]
  cases w.heap[a.block]? with
  | none => rfl
  | some x => cases x <;> simp <;> (try (cases a.spot.isSome <;> simp)) <;> (rw [Bool.eq_iff_iff]; simp [Array.getElem?_setIfInBounds]; try (intro h; split <;> simp_all))
 ·rw [World.cell?_setCell_other _ _ _ _ h]
attribute [local go_sem] impl_IvRem.cell_isSome
set_option linter.unusedVariables false
set_option linter.unusedSimpArgs false

/-! ### impl_IvRem: function 35 -/
def impl_IvRem.j0 : Nat → Int → Bool → Int → Int → Int → Int → Option (Int × Int × Bool × Int)
 | 0, _, _, _, _, _, _ => none
 | k + 1, x6, x35, x236000, x236001, x237000, x237001 => if x35 = true then ((impl_NumRem.f x236000 x237000).bind fun t243 => ((impl_one.f t243).bind fun bt244 => (some (bt244.1, bt244.2, true, x6)))) else ((impl_distance.f x237000).bind fun t246 => ((impl_distance.f x237001).bind fun t247 => (if x236000 < 0 then (if x236001 > 0 then (some (mx (wrap64 (-(wrap64 (IntKind.u64.wrap ((mx t246 t247) - 1))))) x236000, mn (wrap64 (IntKind.u64.wrap ((mx t246 t247) - 1))) x236001, true, x6)) else (some (mx (wrap64 (-(wrap64 (IntKind.u64.wrap ((mx t246 t247) - 1))))) x236000, 0, true, x6))) else (if x236001 > 0 then (some (0, mn (wrap64 (IntKind.u64.wrap ((mx t246 t247) - 1))) x236001, true, x6)) else (some (0, 0, true, x6))))))
def impl_IvRem.f (k : Nat) (a0_0 : Int) (a0_1 : Int) (a1_0 : Int) (a1_1 : Int) : Option (Int × Int × Bool × Int) := (impl_areIvs.f a0_0 a0_1 a1_0 a1_1).bind fun t238 => (if t238 = true then ((impl_divisors.f k a1_0 a1_1).bind fun bt239 => (if (bt239.1.length : Int) = 0 then (some (0, 0, false, bt239.2)) else (if a0_0 = a0_1 then (impl_IvRem.j0 k bt239.2 (a1_0 == a1_1) a0_0 a0_1 a1_0 a1_1) else (impl_IvRem.j0 k bt239.2 false a0_0 a0_1 a1_0 a1_1)))) else (some (0, 0, false, 0)))
theorem impl_IvRem.mono_l : ∀ k, (∀ y0 y1 y2 y3 y4 y5, LeO (impl_IvRem.j0 k y0 y1 y2 y3 y4 y5) (impl_IvRem.j0 (k + 1) y0 y1 y2 y3 y4 y5))
 | 0 => fun _ _ _ _ _ _ r h => by simp [impl_IvRem.j0] at h
 | k + 1 => by
  have ih0 := impl_IvRem.mono_l k
  ·intro y0 y1 y2 y3 y4 y5
   unfold impl_IvRem.j0
   repeat' first
   | (with_reducible exact ih0 _ _ _ _ _ _)
   | (with_reducible exact impl_divisors.mono _ _ _)
   | (with_reducible exact LeO.refl _)
   | (with_reducible exact LeO.none _)
   | (with_reducible refine LeO.ite ?_ ?_)
   | (with_reducible refine LeO.bind ?_ (fun _ => ?_))
   | exact ih0 _ _ _ _ _ _
   | exact impl_divisors.mono _ _ _
   | exact LeO.none _
   | refine LeO.ite ?_ ?_
   | refine LeO.bind ?_ (fun _ => ?_)
theorem impl_IvRem.mono : ∀ a0 a1 a2 a3 k, LeO (impl_IvRem.f k a0 a1 a2 a3) (impl_IvRem.f (k + 1) a0 a1 a2 a3) := by
 intro a0 a1 a2 a3 k
 have ih0 := impl_IvRem.mono_l k
 unfold impl_IvRem.f
 repeat' first
   | (with_reducible exact ih0 _ _ _ _ _ _)
   | (with_reducible exact impl_divisors.mono _ _ _)
   | (with_reducible exact LeO.refl _)
   | (with_reducible exact LeO.none _)
   | (with_reducible refine LeO.ite ?_ ?_)
   | (with_reducible refine LeO.bind ?_ (fun _ => ?_))
   | exact ih0 _ _ _ _ _ _
   | exact impl_divisors.mono _ _ _
   | exact LeO.none _
   | refine LeO.ite ?_ ?_
   | refine LeO.bind ?_ (fun _ => ?_)
set_option maxHeartbeats 8000000 in
set_option maxRecDepth 100000 in
theorem impl_IvRem.calls (k : Nat) (a0_0 : Int) (a0_1 : Int) (a1_0 : Int) (a1_1 : Int) (r1 : Int) (r2 : Int) (r3 : Bool) (r4 : Int) (w : World) (h : impl_IvRem.f k a0_0 a0_1 a1_0 a1_1 = some (r1, r2, r3, r4)) :
  Calls Try.prog 35 #[.agg #[.int .i64 a0_0, .int .i64 a0_1], .agg #[.int .i64 a1_0, .int .i64 a1_1]] w fun e w' => e = .returned (.agg #[.int .i64 r1, .int .i64 r2, .bool r3, .int .i64 r4]) ∧ Below w.heap.size w w' := by
 have hu25 := Try.underlying25
 have hu28 := Try.underlying28
 have HB := Aside0.mk (Below.refl w.heap.size w)
 have H : ((impl_areIvs.f a0_0 a0_1 a1_0 a1_1).bind fun t238 => (if t238 = true then ((impl_divisors.f k a1_0 a1_1).bind fun bt239 => (if (bt239.1.length : Int) = 0 then (some (0, 0, false, bt239.2)) else (if a0_0 = a0_1 then (impl_IvRem.j0 k bt239.2 (a1_0 == a1_1) a0_0 a0_1 a1_0 a1_1) else (impl_IvRem.j0 k bt239.2 false a0_0 a0_1 a1_0 a1_1)))) else (some (0, 0, false, 0)))) = some (r1, r2, r3, r4) := h
 clear h
 replace H := Option.bind_eq_some_iff.mp H
 obtain ⟨t238, A30, H⟩ := H
 replace H : (if t238 = true then ((impl_divisors.f k a1_0 a1_1).bind fun bt239 => (if (bt239.1.length : Int) = 0 then (some (0, 0, false, bt239.2)) else (if a0_0 = a0_1 then (impl_IvRem.j0 k bt239.2 (a1_0 == a1_1) a0_0 a0_1 a1_0 a1_1) else (impl_IvRem.j0 k bt239.2 false a0_0 a0_1 a1_0 a1_1)))) else (some (0, 0, false, 0))) = some (r1, r2, r3, r4) := H
 have A3 := Aside0.mk A30
 clear A30
 by_cases c4 : t238 = true
 ·subst c4
  have H1 : ((impl_divisors.f k a1_0 a1_1).bind fun bt239 => (if (bt239.1.length : Int) = 0 then (some (0, 0, false, bt239.2)) else (if a0_0 = a0_1 then (impl_IvRem.j0 k bt239.2 (a1_0 == a1_1) a0_0 a0_1 a1_0 a1_1) else (impl_IvRem.j0 k bt239.2 false a0_0 a0_1 a1_0 a1_1)))) = some (r1, r2, r3, r4) := by rw [if_pos rfl] at H; exact H
  clear H
  have H := H1
  clear H1
  replace H := Option.bind_eq_some_iff.mp H
  obtain ⟨⟨t239, t242⟩, A50, H⟩ := H
  replace H : (if (t239.length : Int) = 0 then (some (0, 0, false, t242)) else (if a0_0 = a0_1 then (impl_IvRem.j0 k t242 (a1_0 == a1_1) a0_0 a0_1 a1_0 a1_1) else (impl_IvRem.j0 k t242 false a0_0 a0_1 a1_0 a1_1))) = some (r1, r2, r3, r4) := H
  have A5 := Aside0.mk A50
  clear A50
  by_cases c6 : (t239.length : Int) = 0
  ·rw [if_pos c6] at H
   have c6b0 : ((t239.length : Int) == 0) = true := beq_iff_eq.mpr c6
   have c6b1 : ((t239.length : Int) != 0) = false := bne_eq_false_iff_eq.mpr c6
   clear c6
   simp only [Option.some.injEq, Prod.mk.injEq] at H
   obtain ⟨rfl, rfl, rfl, rfl⟩ := H
   go_enter Try.func35, Try.ntmps35
   have tok_ : True := trivial
   repeat ((first | clear tok_ | go_quiet (fail)); try go_wp2_with (first | ((with_reducible refine gate_dst (N := 2) rfl ?_); refine box_event rfl rfl (cs := #[.int .i64 a0_0, .int .i64 a0_1]) (t := 25) (by first | (go_simp; done) | (go_simp; rfl)) ?_; intro gb235 hg w7 hbox hb; have BK235 := Aside0.mk (hbox); have GW235 := bz HB hg; have GE235 := bz HB hg; replace HB := bs HB hb; clear hb hbox hg) | ((with_reducible refine gate_dst (N := 3) rfl ?_); refine box_event rfl rfl (cs := #[.int .i64 a1_0, .int .i64 a1_1]) (t := 25) (by first | (go_simp; done) | (go_simp; rfl)) ?_; intro gb236 hg w8 hbox hb; have BK236 := Aside0.mk (hbox); have GW236 := bz HB hg; have GE236 := bz HB hg; replace HB := bs HB hb; have NB235_236 := bl BK235 hg; have NB236_235 := bg BK235 hg; replace BK235 := bb BK235 hb; clear hb hbox hg) | ((with_reducible refine gate_dst (N := 4) rfl ?_); refine box_event rfl rfl (cs := #[.int .i64 0, .int .i64 0, .bool false, .int .i64 0]) (t := 28) (by first | (go_simp; done) | (go_simp; rfl)) ?_; intro gb237 hg w9 hbox hb; have BK237 := Aside0.mk (hbox); have GW237 := bz HB hg; have GE237 := bz HB hg; replace HB := bs HB hb; have NB235_237 := bl BK235 hg; have NB237_235 := bg BK235 hg; replace BK235 := bb BK235 hb; have NB236_237 := bl BK236 hg; have NB237_236 := bg BK236 hg; replace BK236 := bb BK236 hb; clear hb hbox hg; have hnb10 := NB235_236.out; have hnc10 := NB236_235.out; have hnb11 := NB235_237.out; have hnc11 := NB237_235.out; have hcz12_0 : w9.cell? ⟨gb235, 0, none⟩ = some (.int .i64 a0_0) := (blk_cell BK235.out 0).trans rfl; have hcz12_1 : w9.cell? ⟨gb235, 1, none⟩ = some (.int .i64 a0_1) := (blk_cell BK235.out 1).trans rfl; have hfz12_0 := blk_frozen BK235.out 0; have hfz12_1 := blk_frozen BK235.out 1; have hnb13 := NB236_237.out; have hnc13 := NB237_236.out; have hcz14_0 : w9.cell? ⟨gb236, 0, none⟩ = some (.int .i64 a1_0) := (blk_cell BK236.out 0).trans rfl; have hcz14_1 : w9.cell? ⟨gb236, 1, none⟩ = some (.int .i64 a1_1) := (blk_cell BK236.out 1).trans rfl; have hfz14_0 := blk_frozen BK236.out 0; have hfz14_1 := blk_frozen BK236.out 1) | (go_at_call 46; (with_reducible refine (impl_areIvs.calls a0_0 a0_1 a1_0 a1_1 true _ A3.out).mono ?_); rintro e w15 ⟨rfl, hb⟩; replace BK235 := bb BK235 hb; replace BK236 := bb BK236 hb; replace BK237 := bb BK237 hb; replace HB := bs HB hb; (try clear hb); (try clear hb2); (try clear hk); (try clear hi); have hcz16_0 : w15.cell? ⟨gb236, 0, none⟩ = some (.int .i64 a1_0) := (blk_cell BK236.out 0).trans rfl; have hcz16_1 : w15.cell? ⟨gb236, 1, none⟩ = some (.int .i64 a1_1) := (blk_cell BK236.out 1).trans rfl; have hfz16_0 := blk_frozen BK236.out 0; have hfz16_1 := blk_frozen BK236.out 1) | (go_at_call 52; (with_reducible refine (impl_divisors.calls k a1_0 a1_1 t239 t242 _ A5.out).mono ?_); rintro e w17 ⟨v240, rfl, ho0, hb⟩; have HO241 := Aside0.mk (Kd.R_lower (Kd.R_newB (Kd.R_newB ho0 (bk BK235)) (bk BK236)) (below_size (bw HB))); replace BK235 := bb BK235 hb; replace BK236 := bb BK236 hb; replace BK237 := bb BK237 hb; replace HB := bs HB hb; (try clear hb); (try clear hb2); (try clear hk); (try clear hi); (try clear ho0); obtain ⟨Ao18, co18, eo18⟩ := Kd.R_slice HO241.out; subst eo18; have hcz19_0 : w17.cell? ⟨gb237, 0, none⟩ = some (.int .i64 0) := (blk_cell BK237.out 0).trans rfl; have hcz19_1 : w17.cell? ⟨gb237, 1, none⟩ = some (.int .i64 0) := (blk_cell BK237.out 1).trans rfl; have hcz19_2 : w17.cell? ⟨gb237, 2, none⟩ = some (.bool false) := (blk_cell BK237.out 2).trans rfl; have hcz19_3 : w17.cell? ⟨gb237, 3, none⟩ = some (.int .i64 0) := (blk_cell BK237.out 3).trans rfl; have hfz19_0 := blk_frozen BK237.out 0; have hfz19_1 := blk_frozen BK237.out 1; have hfz19_2 := blk_frozen BK237.out 2; have hfz19_3 := blk_frozen BK237.out 3)))
   all_goals (refine bodyPost_ret (results_cell_row rfl _ _ gb237 28 #[.int .i64 0, .int .i64 0, .bool false, .int .i64 t242] (0, 0) _ rfl (by (with_reducible repeat (first | refine blk_drewN ?_ _ | refine blk_drew ?_ | refine blk_alloc ?_ _)); refine blk_put (cs := #[.int .i64 0, .int .i64 0, .bool false, .int .i64 0]) ?_ 3 _ rfl; (with_reducible repeat (first | refine blk_drewN ?_ _ | refine blk_drew ?_ | refine blk_alloc ?_ _)); refine blk_put (cs := #[.int .i64 0, .int .i64 0, .bool false, .int .i64 0]) ?_ 2 _ rfl; (with_reducible repeat (first | refine blk_drewN ?_ _ | refine blk_drew ?_ | refine blk_alloc ?_ _)); refine blk_put (cs := #[.int .i64 0, .int .i64 0, .bool false, .int .i64 0]) ?_ 1 _ rfl; (with_reducible repeat (first | refine blk_drewN ?_ _ | refine blk_drew ?_ | refine blk_alloc ?_ _)); refine blk_put (cs := #[.int .i64 0, .int .i64 0, .bool false, .int .i64 0]) ?_ 0 _ rfl; (with_reducible repeat (first | refine blk_drewN ?_ _ | refine blk_drew ?_ | refine blk_alloc ?_ _)); exact BK237.out) Try.underlying28 rfl (by kernel_rfl)) rfl ?_; exact ⟨by first | rfl | (simp [errW_none, errW_some] <;> rfl) | (simp [*, errW_none, errW_some] <;> rfl), bw HB⟩)
  ·rw [if_neg c6] at H
   have c6b0 : ((t239.length : Int) == 0) = false := beq_eq_false_iff_ne.mpr c6
   have c6b1 : ((t239.length : Int) != 0) = true := bne_iff_ne.mpr c6
   have c6b2 : ¬ (t239 = []) := fun h_ => c6 (by rw [h_]; rfl)
   have HC20 := Aside0.mk H
   clear H
   go_enter Try.func35, Try.ntmps35
   have tok_ : True := trivial
   repeat ((first | clear tok_ | go_quiet (fail)); go_upto_region 6 with (first | ((with_reducible refine gate_dst (N := 2) rfl ?_); refine box_event rfl rfl (cs := #[.int .i64 a0_0, .int .i64 a0_1]) (t := 25) (by first | (go_simp; done) | (go_simp; rfl)) ?_; intro gb235 hg w21 hbox hb; have BK235 := Aside0.mk (hbox); have GW235 := bz HB hg; have GE235 := bz HB hg; replace HB := bs HB hb; clear hb hbox hg) | ((with_reducible refine gate_dst (N := 3) rfl ?_); refine box_event rfl rfl (cs := #[.int .i64 a1_0, .int .i64 a1_1]) (t := 25) (by first | (go_simp; done) | (go_simp; rfl)) ?_; intro gb236 hg w22 hbox hb; have BK236 := Aside0.mk (hbox); have GW236 := bz HB hg; have GE236 := bz HB hg; replace HB := bs HB hb; have NB235_236 := bl BK235 hg; have NB236_235 := bg BK235 hg; replace BK235 := bb BK235 hb; clear hb hbox hg) | ((with_reducible refine gate_dst (N := 4) rfl ?_); refine box_event rfl rfl (cs := #[.int .i64 0, .int .i64 0, .bool false, .int .i64 0]) (t := 28) (by first | (go_simp; done) | (go_simp; rfl)) ?_; intro gb237 hg w23 hbox hb; have BK237 := Aside0.mk (hbox); have GW237 := bz HB hg; have GE237 := bz HB hg; replace HB := bs HB hb; have NB235_237 := bl BK235 hg; have NB237_235 := bg BK235 hg; replace BK235 := bb BK235 hb; have NB236_237 := bl BK236 hg; have NB237_236 := bg BK236 hg; replace BK236 := bb BK236 hb; clear hb hbox hg; have hnb24 := NB235_236.out; have hnc24 := NB236_235.out; have hnb25 := NB235_237.out; have hnc25 := NB237_235.out; have hcz26_0 : w23.cell? ⟨gb235, 0, none⟩ = some (.int .i64 a0_0) := (blk_cell BK235.out 0).trans rfl; have hcz26_1 : w23.cell? ⟨gb235, 1, none⟩ = some (.int .i64 a0_1) := (blk_cell BK235.out 1).trans rfl; have hfz26_0 := blk_frozen BK235.out 0; have hfz26_1 := blk_frozen BK235.out 1; have hnb27 := NB236_237.out; have hnc27 := NB237_236.out; have hcz28_0 : w23.cell? ⟨gb236, 0, none⟩ = some (.int .i64 a1_0) := (blk_cell BK236.out 0).trans rfl; have hcz28_1 : w23.cell? ⟨gb236, 1, none⟩ = some (.int .i64 a1_1) := (blk_cell BK236.out 1).trans rfl; have hfz28_0 := blk_frozen BK236.out 0; have hfz28_1 := blk_frozen BK236.out 1) | (go_at_call 46; (with_reducible refine (impl_areIvs.calls a0_0 a0_1 a1_0 a1_1 true _ A3.out).mono ?_); rintro e w29 ⟨rfl, hb⟩; replace BK235 := bb BK235 hb; replace BK236 := bb BK236 hb; replace BK237 := bb BK237 hb; replace HB := bs HB hb; (try clear hb); (try clear hb2); (try clear hk); (try clear hi); have hcz30_0 : w29.cell? ⟨gb236, 0, none⟩ = some (.int .i64 a1_0) := (blk_cell BK236.out 0).trans rfl; have hcz30_1 : w29.cell? ⟨gb236, 1, none⟩ = some (.int .i64 a1_1) := (blk_cell BK236.out 1).trans rfl; have hfz30_0 := blk_frozen BK236.out 0; have hfz30_1 := blk_frozen BK236.out 1) | (go_at_call 52; (with_reducible refine (impl_divisors.calls k a1_0 a1_1 t239 t242 _ A5.out).mono ?_); rintro e w31 ⟨v240, rfl, ho0, hb⟩; have HO241 := Aside0.mk (Kd.R_lower (Kd.R_newB (Kd.R_newB ho0 (bk BK235)) (bk BK236)) (below_size (bw HB))); replace BK235 := bb BK235 hb; replace BK236 := bb BK236 hb; replace BK237 := bb BK237 hb; replace HB := bs HB hb; (try clear hb); (try clear hb2); (try clear hk); (try clear hi); (try clear ho0); obtain ⟨Ao32, co32, eo32⟩ := Kd.R_slice HO241.out; subst eo32)))
   (try simp only [Act.put, List.setIfInBounds_toArray, List.set_cons_zero, List.set_cons_succ])
   go_cut [35] (fun v35 wc => ∃ (kq : Nat) (x35_19 : Bool), v35 = .bool x35_19 ∧ Aside0 (impl_IvRem.j0 kq t242 x35_19 a0_0 a0_1 a1_0 a1_1 = some (r1, r2, r3, r4)) ∧ Aside0 (kq ≤ k) ∧ Aside0 (wc.heap[gb235]? = some (.cells #[.int .i64 a0_0, .int .i64 a0_1] 25 (0, 0))) ∧ Aside0 (wc.heap[gb236]? = some (.cells #[.int .i64 a1_0, .int .i64 a1_1] 25 (0, 0))) ∧ Aside0 (wc.heap[gb237]? = some (.cells #[.int .i64 0, .int .i64 0, .bool false, .int .i64 0] 28 (0, 0))) ∧ Aside0 (Below w.heap.size w wc))
   case first =>
    have H := HC20.out
    clear HC20
    by_cases c33 : a0_0 = a0_1
    ·rw [if_pos c33] at H
     have c33b0 : (a0_0 == a0_1) = true := beq_iff_eq.mpr c33
     have c33b1 : (a0_0 != a0_1) = false := bne_eq_false_iff_eq.mpr c33
     clear c33
     (first | rw [c33b0] | (simp only [i64_w, i32_w]; rw [c33b0]) | skip)
     have H' := Aside0.mk H
     clear H
     have hnb34 := NB235_236.out
     have hnc34 := NB236_235.out
     have hnb35 := NB235_237.out
     have hnc35 := NB237_235.out
     have hcz36_0 : w31.cell? ⟨gb235, 0, none⟩ = some (.int .i64 a0_0) := (blk_cell BK235.out 0).trans rfl
     have hcz36_1 : w31.cell? ⟨gb235, 1, none⟩ = some (.int .i64 a0_1) := (blk_cell BK235.out 1).trans rfl
     have hfz36_0 := blk_frozen BK235.out 0
     have hfz36_1 := blk_frozen BK235.out 1
     have hnb37 := NB236_237.out
     have hnc37 := NB237_236.out
     have hcz38_0 : w31.cell? ⟨gb236, 0, none⟩ = some (.int .i64 a1_0) := (blk_cell BK236.out 0).trans rfl
     have hcz38_1 : w31.cell? ⟨gb236, 1, none⟩ = some (.int .i64 a1_1) := (blk_cell BK236.out 1).trans rfl
     have hfz38_0 := blk_frozen BK236.out 0
     have hfz38_1 := blk_frozen BK236.out 1
     go_wp2
     repeat (go_quiet (fail); try go_wp2)
     go_meet
     case rel => exact ⟨_, ((a1_0 == a1_1)), (by first | rfl | (simp; done) | (simp [*]; done)), H', ⟨by first | omega | exact Nat.le_refl _⟩, ⟨bx BK235⟩, ⟨bx BK236⟩, ⟨bx BK237⟩, ⟨bw HB⟩⟩
    ·rw [if_neg c33] at H
     have c33b0 : (a0_0 == a0_1) = false := beq_eq_false_iff_ne.mpr c33
     have c33b1 : (a0_0 != a0_1) = true := bne_iff_ne.mpr c33
     (first | rw [c33b0] | (simp only [i64_w, i32_w]; rw [c33b0]) | skip)
     have H' := Aside0.mk H
     clear H
     have hnb39 := NB235_236.out
     have hnc39 := NB236_235.out
     have hnb40 := NB235_237.out
     have hnc40 := NB237_235.out
     have hcz41_0 : w31.cell? ⟨gb235, 0, none⟩ = some (.int .i64 a0_0) := (blk_cell BK235.out 0).trans rfl
     have hcz41_1 : w31.cell? ⟨gb235, 1, none⟩ = some (.int .i64 a0_1) := (blk_cell BK235.out 1).trans rfl
     have hfz41_0 := blk_frozen BK235.out 0
     have hfz41_1 := blk_frozen BK235.out 1
     go_wp2
     repeat (go_quiet (fail); try go_wp2)
     go_meet
     case rel => exact ⟨_, (false), (by first | rfl | (simp; done) | (simp [*]; done)), H', ⟨by first | omega | exact Nat.le_refl _⟩, ⟨bx BK235⟩, ⟨bx BK236⟩, ⟨bx BK237⟩, ⟨bw HB⟩⟩
   case rest =>
    clear HC20
    try clear c1
    try clear c2
    try clear p2
    try clear c3
    try clear c4
    try clear c6
    try clear c6b0
    try clear c6b1
    try clear c6b2
    try clear c10
    try clear c11
    try clear c13
    try clear c24
    try clear c25
    try clear c27
    try clear c33
    try clear c33b0
    try clear c33b1
    try clear c34
    try clear c35
    try clear c37
    try clear c39
    try clear c40
    try clear hcz12_0
    try clear hcz12_1
    try clear hcz14_0
    try clear hcz14_1
    try clear hcz16_0
    try clear hcz16_1
    try clear hcz19_0
    try clear hcz19_1
    try clear hcz19_2
    try clear hcz19_3
    try clear hcz26_0
    try clear hcz26_1
    try clear hcz28_0
    try clear hcz28_1
    try clear hcz30_0
    try clear hcz30_1
    try clear hcz36_0
    try clear hcz36_1
    try clear hcz38_0
    try clear hcz38_1
    try clear hcz41_0
    try clear hcz41_1
    try clear hfz12_0
    try clear hfz12_1
    try clear hfz14_0
    try clear hfz14_1
    try clear hfz16_0
    try clear hfz16_1
    try clear hfz19_0
    try clear hfz19_1
    try clear hfz19_2
    try clear hfz19_3
    try clear hfz26_0
    try clear hfz26_1
    try clear hfz28_0
    try clear hfz28_1
    try clear hfz30_0
    try clear hfz30_1
    try clear hfz36_0
    try clear hfz36_1
    try clear hfz38_0
    try clear hfz38_1
    try clear hfz41_0
    try clear hfz41_1
    obtain ⟨kq, x35_19, rfl, HA, HJ19, BK235, BK236, BK237, HB⟩ := hcut
    cases kq with
    | zero => exact absurd HA.out (by simp [impl_IvRem.j0])
    | succ kj19 =>
     have H := HA.out
     clear HA
     simp only [impl_IvRem.j0] at H
     by_cases c42 : x35_19 = true
     ·subst c42
      have H1 : ((impl_NumRem.f a0_0 a1_0).bind fun t243 => ((impl_one.f t243).bind fun bt244 => (some (bt244.1, bt244.2, true, t242)))) = some (r1, r2, r3, r4) := by rw [if_pos rfl] at H; exact H
      clear H
      have H := H1
      clear H1
      replace H := Option.bind_eq_some_iff.mp H
      obtain ⟨t243, A430, H⟩ := H
      replace H : ((impl_one.f t243).bind fun bt244 => (some (bt244.1, bt244.2, true, t242))) = some (r1, r2, r3, r4) := H
      have A43 := Aside0.mk A430
      clear A430
      replace H := Option.bind_eq_some_iff.mp H
      obtain ⟨⟨t244, t245⟩, A440, H⟩ := H
      replace H : (some (t244, t245, true, t242)) = some (r1, r2, r3, r4) := H
      have A44 := Aside0.mk A440
      clear A440
      simp only [Option.some.injEq, Prod.mk.injEq] at H
      obtain ⟨rfl, rfl, rfl, rfl⟩ := H
      have hnb45 := NB235_236.out
      have hnc45 := NB236_235.out
      have hnb46 := NB235_237.out
      have hnc46 := NB237_235.out
      have hcz47_0 : wc.cell? ⟨gb235, 0, none⟩ = some (.int .i64 a0_0) := (blk_cell BK235.out 0).trans rfl
      have hcz47_1 : wc.cell? ⟨gb235, 1, none⟩ = some (.int .i64 a0_1) := (blk_cell BK235.out 1).trans rfl
      have hfz47_0 := blk_frozen BK235.out 0
      have hfz47_1 := blk_frozen BK235.out 1
      have hnb48 := NB236_237.out
      have hnc48 := NB237_236.out
      have hcz49_0 : wc.cell? ⟨gb236, 0, none⟩ = some (.int .i64 a1_0) := (blk_cell BK236.out 0).trans rfl
      have hcz49_1 : wc.cell? ⟨gb236, 1, none⟩ = some (.int .i64 a1_1) := (blk_cell BK236.out 1).trans rfl
      have hfz49_0 := blk_frozen BK236.out 0
      have hfz49_1 := blk_frozen BK236.out 1
      have tok_ : True := trivial
      repeat ((first | clear tok_ | go_quiet ((go_at_call 41; (with_reducible refine (impl_NumRem.calls a0_0 a1_0 t243 _ A43.out).mono ?_); rintro e w' ⟨rfl, ⟨nd, rfl⟩⟩; (try exact qd)))); try go_wp2_with (first | (go_at_call 41; (with_reducible refine (impl_NumRem.calls a0_0 a1_0 t243 _ A43.out).mono ?_); rintro e w' ⟨rfl, ⟨nd, rfl⟩⟩; (try exact qd)) | (go_at_call 58; (with_reducible refine (impl_one.calls t243 t244 t245 _ A44.out).mono ?_); rintro e w50 ⟨rfl, hb⟩; replace BK235 := bb BK235 hb; replace BK236 := bb BK236 hb; replace BK237 := bb BK237 hb; replace HB := bs HB hb; (try clear hb); (try clear hb2); (try clear hk); (try clear hi); have hcz51_0 : w50.cell? ⟨gb237, 0, none⟩ = some (.int .i64 0) := (blk_cell BK237.out 0).trans rfl; have hcz51_1 : w50.cell? ⟨gb237, 1, none⟩ = some (.int .i64 0) := (blk_cell BK237.out 1).trans rfl; have hcz51_2 : w50.cell? ⟨gb237, 2, none⟩ = some (.bool false) := (blk_cell BK237.out 2).trans rfl; have hcz51_3 : w50.cell? ⟨gb237, 3, none⟩ = some (.int .i64 0) := (blk_cell BK237.out 3).trans rfl; have hfz51_0 := blk_frozen BK237.out 0; have hfz51_1 := blk_frozen BK237.out 1; have hfz51_2 := blk_frozen BK237.out 2; have hfz51_3 := blk_frozen BK237.out 3)))
      all_goals (refine bodyPost_ret (results_cell_row rfl _ _ gb237 28 #[.int .i64 t244, .int .i64 t245, .bool true, .int .i64 t242] (0, 0) _ rfl (by (with_reducible repeat (first | refine blk_drewN ?_ _ | refine blk_drew ?_ | refine blk_alloc ?_ _)); refine blk_put (cs := #[.int .i64 t244, .int .i64 t245, .bool true, .int .i64 0]) ?_ 3 _ rfl; (with_reducible repeat (first | refine blk_drewN ?_ _ | refine blk_drew ?_ | refine blk_alloc ?_ _)); refine blk_put (cs := #[.int .i64 t244, .int .i64 t245, .bool false, .int .i64 0]) ?_ 2 _ rfl; (with_reducible repeat (first | refine blk_drewN ?_ _ | refine blk_drew ?_ | refine blk_alloc ?_ _)); refine blk_put (cs := #[.int .i64 t244, .int .i64 0, .bool false, .int .i64 0]) ?_ 1 _ rfl; (with_reducible repeat (first | refine blk_drewN ?_ _ | refine blk_drew ?_ | refine blk_alloc ?_ _)); refine blk_put (cs := #[.int .i64 0, .int .i64 0, .bool false, .int .i64 0]) ?_ 0 _ rfl; (with_reducible repeat (first | refine blk_drewN ?_ _ | refine blk_drew ?_ | refine blk_alloc ?_ _)); exact BK237.out) Try.underlying28 rfl (by kernel_rfl)) rfl ?_; exact ⟨by first | rfl | (simp [errW_none, errW_some] <;> rfl) | (simp [*, errW_none, errW_some] <;> rfl), bw HB⟩)
     ·replace c42 := Bool.eq_false_iff.mpr c42
      subst c42
      have H1 : ((impl_distance.f a1_0).bind fun t246 => ((impl_distance.f a1_1).bind fun t247 => (if a0_0 < 0 then (if a0_1 > 0 then (some (mx (wrap64 (-(wrap64 (IntKind.u64.wrap ((mx t246 t247) - 1))))) a0_0, mn (wrap64 (IntKind.u64.wrap ((mx t246 t247) - 1))) a0_1, true, t242)) else (some (mx (wrap64 (-(wrap64 (IntKind.u64.wrap ((mx t246 t247) - 1))))) a0_0, 0, true, t242))) else (if a0_1 > 0 then (some (0, mn (wrap64 (IntKind.u64.wrap ((mx t246 t247) - 1))) a0_1, true, t242)) else (some (0, 0, true, t242)))))) = some (r1, r2, r3, r4) := by rw [if_neg (show ¬ (false = true) by decide)] at H; exact H
      clear H
      have H := H1
      clear H1
      replace H := Option.bind_eq_some_iff.mp H
      obtain ⟨t246, A520, H⟩ := H
      replace H : ((impl_distance.f a1_1).bind fun t247 => (if a0_0 < 0 then (if a0_1 > 0 then (some (mx (wrap64 (-(wrap64 (IntKind.u64.wrap ((mx t246 t247) - 1))))) a0_0, mn (wrap64 (IntKind.u64.wrap ((mx t246 t247) - 1))) a0_1, true, t242)) else (some (mx (wrap64 (-(wrap64 (IntKind.u64.wrap ((mx t246 t247) - 1))))) a0_0, 0, true, t242))) else (if a0_1 > 0 then (some (0, mn (wrap64 (IntKind.u64.wrap ((mx t246 t247) - 1))) a0_1, true, t242)) else (some (0, 0, true, t242))))) = some (r1, r2, r3, r4) := H
      have A52 := Aside0.mk A520
      clear A520
      replace H := Option.bind_eq_some_iff.mp H
      obtain ⟨t247, A530, H⟩ := H
      replace H : (if a0_0 < 0 then (if a0_1 > 0 then (some (mx (wrap64 (-(wrap64 (IntKind.u64.wrap ((mx t246 t247) - 1))))) a0_0, mn (wrap64 (IntKind.u64.wrap ((mx t246 t247) - 1))) a0_1, true, t242)) else (some (mx (wrap64 (-(wrap64 (IntKind.u64.wrap ((mx t246 t247) - 1))))) a0_0, 0, true, t242))) else (if a0_1 > 0 then (some (0, mn (wrap64 (IntKind.u64.wrap ((mx t246 t247) - 1))) a0_1, true, t242)) else (some (0, 0, true, t242)))) = some (r1, r2, r3, r4) := H
      have A53 := Aside0.mk A530
      clear A530
      obtain ⟨ji54, hji54⟩ : ∃ j_ : Int, (mx t246 t247) = j_ := ⟨_, rfl⟩
      replace H : (if a0_0 < 0 then (if a0_1 > 0 then (some (mx (wrap64 (-(wrap64 (IntKind.u64.wrap ((ji54) - 1))))) a0_0, mn (wrap64 (IntKind.u64.wrap ((ji54) - 1))) a0_1, true, t242)) else (some (mx (wrap64 (-(wrap64 (IntKind.u64.wrap ((ji54) - 1))))) a0_0, 0, true, t242))) else (if a0_1 > 0 then (some (0, mn (wrap64 (IntKind.u64.wrap ((ji54) - 1))) a0_1, true, t242)) else (some (0, 0, true, t242)))) = some (r1, r2, r3, r4) := by first | (rw [hji54] at H; exact H) | (simp only [hji54] at H ⊢; exact H)
      (try rw [hji54] at A52)
      (try rw [hji54] at A53)
      have hji54_ : (if t246 < t247 then t247 else t246) = ji54 := hji54
      by_cases c55 : a0_0 < 0
      ·rw [if_pos c55] at H
       have c55b0 : decide (a0_0 < 0) = true := decide_eq_true c55
       clear c55
       obtain ⟨ji56, hji56⟩ : ∃ j_ : Int, (mx (wrap64 (-(wrap64 (IntKind.u64.wrap ((ji54) - 1))))) a0_0) = j_ := ⟨_, rfl⟩
       replace H : (if a0_1 > 0 then (some (ji56, mn (wrap64 (IntKind.u64.wrap ((ji54) - 1))) a0_1, true, t242)) else (some (ji56, 0, true, t242))) = some (r1, r2, r3, r4) := by first | (rw [hji56] at H; exact H) | (simp only [hji56] at H ⊢; exact H)
       (try rw [hji56] at A52)
       (try rw [hji56] at A53)
       have hji56_ : (if (wrap64 (-(wrap64 (IntKind.u64.wrap ((ji54) - 1))))) < a0_0 then a0_0 else (wrap64 (-(wrap64 (IntKind.u64.wrap ((ji54) - 1)))))) = ji56 := hji56
       by_cases c57 : a0_1 > 0
       ·rw [if_pos c57] at H
        have c57b0 : decide (0 < a0_1) = true := decide_eq_true c57
        clear c57
        obtain ⟨ji58, hji58⟩ : ∃ j_ : Int, (mn (wrap64 (IntKind.u64.wrap ((ji54) - 1))) a0_1) = j_ := ⟨_, rfl⟩
        replace H : (some (ji56, ji58, true, t242)) = some (r1, r2, r3, r4) := by first | (rw [hji58] at H; exact H) | (simp only [hji58] at H ⊢; exact H)
        (try rw [hji58] at A52)
        (try rw [hji58] at A53)
        have hji58_ : (if a0_1 < (wrap64 (IntKind.u64.wrap ((ji54) - 1))) then a0_1 else (wrap64 (IntKind.u64.wrap ((ji54) - 1)))) = ji58 := hji58
        simp only [Option.some.injEq, Prod.mk.injEq] at H
        obtain ⟨rfl, rfl, rfl, rfl⟩ := H
        have hnb59 := NB236_235.out
        have hnc59 := NB235_236.out
        have hnb60 := NB236_237.out
        have hnc60 := NB237_236.out
        have hcz61_0 : wc.cell? ⟨gb236, 0, none⟩ = some (.int .i64 a1_0) := (blk_cell BK236.out 0).trans rfl
        have hcz61_1 : wc.cell? ⟨gb236, 1, none⟩ = some (.int .i64 a1_1) := (blk_cell BK236.out 1).trans rfl
        have hfz61_0 := blk_frozen BK236.out 0
        have hfz61_1 := blk_frozen BK236.out 1
        have tok_ : True := trivial
        repeat ((first | clear tok_ | go_quiet (first | (go_at_call 59; (with_reducible refine (impl_distance.calls a1_0 t246 _ A52.out).mono ?_); rintro e w' ⟨rfl, ⟨nd, rfl⟩⟩; (try exact qd)) | (go_at_call 59; (with_reducible refine (impl_distance.calls a1_1 t247 _ A53.out).mono ?_); rintro e w' ⟨rfl, ⟨nd, rfl⟩⟩; (try exact qd)))); try go_wp2_with (first | (go_at_call 59; (with_reducible refine (impl_distance.calls a1_0 t246 _ A52.out).mono ?_); rintro e w' ⟨rfl, ⟨nd, rfl⟩⟩; (try exact qd)) | (go_at_call 59; (with_reducible refine (impl_distance.calls a1_1 t247 _ A53.out).mono ?_); rintro e w' ⟨rfl, ⟨nd, rfl⟩⟩; (try exact qd)) | ((with_reducible refine gate_dst (N := 8) rfl ?_); refine box_event rfl rfl (cs := #[.int .i64 0, .int .i64 0]) (t := 25) (by first | (go_simp; done) | (go_simp; rfl)) ?_; intro gb248 hg w62 hbox hb; have BK248 := Aside0.mk (hbox); have GW248 := bz HB hg; have GE248 := bz HB hg; replace HB := bs HB hb; have NB235_248 := bl BK235 hg; have NB248_235 := bg BK235 hg; replace BK235 := bb BK235 hb; have NB236_248 := bl BK236 hg; have NB248_236 := bg BK236 hg; replace BK236 := bb BK236 hb; have NB237_248 := bl BK237 hg; have NB248_237 := bg BK237 hg; replace BK237 := bb BK237 hb; clear hb hbox hg; have hnb63 := NB248_235.out; have hnc63 := NB235_248.out; have hnb64 := NB248_236.out; have hnc64 := NB236_248.out; have hnb65 := NB248_237.out; have hnc65 := NB237_248.out; have hcz66_0 : w62.cell? ⟨gb248, 0, none⟩ = some (.int .i64 0) := (blk_cell BK248.out 0).trans rfl; have hcz66_1 : w62.cell? ⟨gb248, 1, none⟩ = some (.int .i64 0) := (blk_cell BK248.out 1).trans rfl; have hfz66_0 := blk_frozen BK248.out 0; have hfz66_1 := blk_frozen BK248.out 1; have hnb67 := NB235_237.out; have hnc67 := NB237_235.out; have hcz68_0 : w62.cell? ⟨gb235, 0, none⟩ = some (.int .i64 a0_0) := (blk_cell BK235.out 0).trans rfl; have hcz68_1 : w62.cell? ⟨gb235, 1, none⟩ = some (.int .i64 a0_1) := (blk_cell BK235.out 1).trans rfl; have hfz68_0 := blk_frozen BK235.out 0; have hfz68_1 := blk_frozen BK235.out 1; have hcz69_0 : w62.cell? ⟨gb237, 0, none⟩ = some (.int .i64 0) := (blk_cell BK237.out 0).trans rfl; have hcz69_1 : w62.cell? ⟨gb237, 1, none⟩ = some (.int .i64 0) := (blk_cell BK237.out 1).trans rfl; have hcz69_2 : w62.cell? ⟨gb237, 2, none⟩ = some (.bool false) := (blk_cell BK237.out 2).trans rfl; have hcz69_3 : w62.cell? ⟨gb237, 3, none⟩ = some (.int .i64 0) := (blk_cell BK237.out 3).trans rfl; have hfz69_0 := blk_frozen BK237.out 0; have hfz69_1 := blk_frozen BK237.out 1; have hfz69_2 := blk_frozen BK237.out 2; have hfz69_3 := blk_frozen BK237.out 3)))
        all_goals (refine bodyPost_ret (results_cell_row rfl _ _ gb237 28 #[.int .i64 ji56, .int .i64 ji58, .bool true, .int .i64 t242] (0, 0) _ rfl (by (with_reducible repeat (first | refine blk_drewN ?_ _ | refine blk_drew ?_ | refine blk_alloc ?_ _)); refine blk_put (cs := #[.int .i64 ji56, .int .i64 ji58, .bool true, .int .i64 0]) ?_ 3 _ rfl; (with_reducible repeat (first | refine blk_drewN ?_ _ | refine blk_drew ?_ | refine blk_alloc ?_ _)); refine blk_put (cs := #[.int .i64 ji56, .int .i64 ji58, .bool false, .int .i64 0]) ?_ 2 _ rfl; (with_reducible repeat (first | refine blk_drewN ?_ _ | refine blk_drew ?_ | refine blk_alloc ?_ _)); refine blk_put (cs := #[.int .i64 ji56, .int .i64 0, .bool false, .int .i64 0]) ?_ 1 _ rfl; (with_reducible repeat (first | refine blk_drewN ?_ _ | refine blk_drew ?_ | refine blk_alloc ?_ _)); refine blk_put (cs := #[.int .i64 0, .int .i64 0, .bool false, .int .i64 0]) ?_ 0 _ rfl; (with_reducible repeat (first | refine blk_drewN ?_ _ | refine blk_drew ?_ | refine blk_alloc ?_ _)); refine blk_far ?_ NB237_248.out _; (with_reducible repeat (first | refine blk_drewN ?_ _ | refine blk_drew ?_ | refine blk_alloc ?_ _)); refine blk_far ?_ NB237_248.out _; (with_reducible repeat (first | refine blk_drewN ?_ _ | refine blk_drew ?_ | refine blk_alloc ?_ _)); refine blk_far ?_ NB237_248.out _; (with_reducible repeat (first | refine blk_drewN ?_ _ | refine blk_drew ?_ | refine blk_alloc ?_ _)); refine blk_far ?_ NB237_248.out _; (with_reducible repeat (first | refine blk_drewN ?_ _ | refine blk_drew ?_ | refine blk_alloc ?_ _)); exact BK237.out) Try.underlying28 rfl (by kernel_rfl)) rfl ?_; exact ⟨by first | rfl | (simp [errW_none, errW_some] <;> rfl) | (simp only [← hji54, ← hji56, ← hji58]; first | rfl | (simp [errW_none, errW_some] <;> rfl)) | (simp [*, errW_none, errW_some] <;> rfl), bw HB⟩)
       ·rw [if_neg c57] at H
        have c57b0 : decide (0 < a0_1) = false := decide_eq_false c57
        clear c57
        simp only [Option.some.injEq, Prod.mk.injEq] at H
        obtain ⟨rfl, rfl, rfl, rfl⟩ := H
        have hnb70 := NB236_235.out
        have hnc70 := NB235_236.out
        have hnb71 := NB236_237.out
        have hnc71 := NB237_236.out
        have hcz72_0 : wc.cell? ⟨gb236, 0, none⟩ = some (.int .i64 a1_0) := (blk_cell BK236.out 0).trans rfl
        have hcz72_1 : wc.cell? ⟨gb236, 1, none⟩ = some (.int .i64 a1_1) := (blk_cell BK236.out 1).trans rfl
        have hfz72_0 := blk_frozen BK236.out 0
        have hfz72_1 := blk_frozen BK236.out 1
        have tok_ : True := trivial
        repeat ((first | clear tok_ | go_quiet (first | (go_at_call 59; (with_reducible refine (impl_distance.calls a1_0 t246 _ A52.out).mono ?_); rintro e w' ⟨rfl, ⟨nd, rfl⟩⟩; (try exact qd)) | (go_at_call 59; (with_reducible refine (impl_distance.calls a1_1 t247 _ A53.out).mono ?_); rintro e w' ⟨rfl, ⟨nd, rfl⟩⟩; (try exact qd)))); try go_wp2_with (first | (go_at_call 59; (with_reducible refine (impl_distance.calls a1_0 t246 _ A52.out).mono ?_); rintro e w' ⟨rfl, ⟨nd, rfl⟩⟩; (try exact qd)) | (go_at_call 59; (with_reducible refine (impl_distance.calls a1_1 t247 _ A53.out).mono ?_); rintro e w' ⟨rfl, ⟨nd, rfl⟩⟩; (try exact qd)) | ((with_reducible refine gate_dst (N := 8) rfl ?_); refine box_event rfl rfl (cs := #[.int .i64 0, .int .i64 0]) (t := 25) (by first | (go_simp; done) | (go_simp; rfl)) ?_; intro gb248 hg w73 hbox hb; have BK248 := Aside0.mk (hbox); have GW248 := bz HB hg; have GE248 := bz HB hg; replace HB := bs HB hb; have NB235_248 := bl BK235 hg; have NB248_235 := bg BK235 hg; replace BK235 := bb BK235 hb; have NB236_248 := bl BK236 hg; have NB248_236 := bg BK236 hg; replace BK236 := bb BK236 hb; have NB237_248 := bl BK237 hg; have NB248_237 := bg BK237 hg; replace BK237 := bb BK237 hb; clear hb hbox hg; have hnb74 := NB248_235.out; have hnc74 := NB235_248.out; have hnb75 := NB248_236.out; have hnc75 := NB236_248.out; have hnb76 := NB248_237.out; have hnc76 := NB237_248.out; have hcz77_0 : w73.cell? ⟨gb248, 0, none⟩ = some (.int .i64 0) := (blk_cell BK248.out 0).trans rfl; have hcz77_1 : w73.cell? ⟨gb248, 1, none⟩ = some (.int .i64 0) := (blk_cell BK248.out 1).trans rfl; have hfz77_0 := blk_frozen BK248.out 0; have hfz77_1 := blk_frozen BK248.out 1; have hnb78 := NB235_237.out; have hnc78 := NB237_235.out; have hcz79_0 : w73.cell? ⟨gb235, 0, none⟩ = some (.int .i64 a0_0) := (blk_cell BK235.out 0).trans rfl; have hcz79_1 : w73.cell? ⟨gb235, 1, none⟩ = some (.int .i64 a0_1) := (blk_cell BK235.out 1).trans rfl; have hfz79_0 := blk_frozen BK235.out 0; have hfz79_1 := blk_frozen BK235.out 1; have hcz80_0 : w73.cell? ⟨gb237, 0, none⟩ = some (.int .i64 0) := (blk_cell BK237.out 0).trans rfl; have hcz80_1 : w73.cell? ⟨gb237, 1, none⟩ = some (.int .i64 0) := (blk_cell BK237.out 1).trans rfl; have hcz80_2 : w73.cell? ⟨gb237, 2, none⟩ = some (.bool false) := (blk_cell BK237.out 2).trans rfl; have hcz80_3 : w73.cell? ⟨gb237, 3, none⟩ = some (.int .i64 0) := (blk_cell BK237.out 3).trans rfl; have hfz80_0 := blk_frozen BK237.out 0; have hfz80_1 := blk_frozen BK237.out 1; have hfz80_2 := blk_frozen BK237.out 2; have hfz80_3 := blk_frozen BK237.out 3)))
        all_goals (refine bodyPost_ret (results_cell_row rfl _ _ gb237 28 #[.int .i64 ji56, .int .i64 0, .bool true, .int .i64 t242] (0, 0) _ rfl (by (with_reducible repeat (first | refine blk_drewN ?_ _ | refine blk_drew ?_ | refine blk_alloc ?_ _)); refine blk_put (cs := #[.int .i64 ji56, .int .i64 0, .bool true, .int .i64 0]) ?_ 3 _ rfl; (with_reducible repeat (first | refine blk_drewN ?_ _ | refine blk_drew ?_ | refine blk_alloc ?_ _)); refine blk_put (cs := #[.int .i64 ji56, .int .i64 0, .bool false, .int .i64 0]) ?_ 2 _ rfl; (with_reducible repeat (first | refine blk_drewN ?_ _ | refine blk_drew ?_ | refine blk_alloc ?_ _)); refine blk_put (cs := #[.int .i64 ji56, .int .i64 0, .bool false, .int .i64 0]) ?_ 1 _ rfl; (with_reducible repeat (first | refine blk_drewN ?_ _ | refine blk_drew ?_ | refine blk_alloc ?_ _)); refine blk_put (cs := #[.int .i64 0, .int .i64 0, .bool false, .int .i64 0]) ?_ 0 _ rfl; (with_reducible repeat (first | refine blk_drewN ?_ _ | refine blk_drew ?_ | refine blk_alloc ?_ _)); refine blk_far ?_ NB237_248.out _; (with_reducible repeat (first | refine blk_drewN ?_ _ | refine blk_drew ?_ | refine blk_alloc ?_ _)); refine blk_far ?_ NB237_248.out _; (with_reducible repeat (first | refine blk_drewN ?_ _ | refine blk_drew ?_ | refine blk_alloc ?_ _)); refine blk_far ?_ NB237_248.out _; (with_reducible repeat (first | refine blk_drewN ?_ _ | refine blk_drew ?_ | refine blk_alloc ?_ _)); exact BK237.out) Try.underlying28 rfl (by kernel_rfl)) rfl ?_; exact ⟨by first | rfl | (simp [errW_none, errW_some] <;> rfl) | (simp only [← hji54, ← hji56]; first | rfl | (simp [errW_none, errW_some] <;> rfl)) | (simp [*, errW_none, errW_some] <;> rfl), bw HB⟩)
      ·rw [if_neg c55] at H
       have c55b0 : decide (a0_0 < 0) = false := decide_eq_false c55
       clear c55
       by_cases c81 : a0_1 > 0
       ·rw [if_pos c81] at H
        have c81b0 : decide (0 < a0_1) = true := decide_eq_true c81
        clear c81
        obtain ⟨ji82, hji82⟩ : ∃ j_ : Int, (mn (wrap64 (IntKind.u64.wrap ((ji54) - 1))) a0_1) = j_ := ⟨_, rfl⟩
        replace H : (some (0, ji82, true, t242)) = some (r1, r2, r3, r4) := by first | (rw [hji82] at H; exact H) | (simp only [hji82] at H ⊢; exact H)
        (try rw [hji82] at A52)
        (try rw [hji82] at A53)
        have hji82_ : (if a0_1 < (wrap64 (IntKind.u64.wrap ((ji54) - 1))) then a0_1 else (wrap64 (IntKind.u64.wrap ((ji54) - 1)))) = ji82 := hji82
        simp only [Option.some.injEq, Prod.mk.injEq] at H
        obtain ⟨rfl, rfl, rfl, rfl⟩ := H
        have hnb83 := NB236_235.out
        have hnc83 := NB235_236.out
        have hnb84 := NB236_237.out
        have hnc84 := NB237_236.out
        have hcz85_0 : wc.cell? ⟨gb236, 0, none⟩ = some (.int .i64 a1_0) := (blk_cell BK236.out 0).trans rfl
        have hcz85_1 : wc.cell? ⟨gb236, 1, none⟩ = some (.int .i64 a1_1) := (blk_cell BK236.out 1).trans rfl
        have hfz85_0 := blk_frozen BK236.out 0
        have hfz85_1 := blk_frozen BK236.out 1
        have tok_ : True := trivial
        repeat ((first | clear tok_ | go_quiet (first | (go_at_call 59; (with_reducible refine (impl_distance.calls a1_0 t246 _ A52.out).mono ?_); rintro e w' ⟨rfl, ⟨nd, rfl⟩⟩; (try exact qd)) | (go_at_call 59; (with_reducible refine (impl_distance.calls a1_1 t247 _ A53.out).mono ?_); rintro e w' ⟨rfl, ⟨nd, rfl⟩⟩; (try exact qd)))); try go_wp2_with (first | (go_at_call 59; (with_reducible refine (impl_distance.calls a1_0 t246 _ A52.out).mono ?_); rintro e w' ⟨rfl, ⟨nd, rfl⟩⟩; (try exact qd)) | (go_at_call 59; (with_reducible refine (impl_distance.calls a1_1 t247 _ A53.out).mono ?_); rintro e w' ⟨rfl, ⟨nd, rfl⟩⟩; (try exact qd)) | ((with_reducible refine gate_dst (N := 8) rfl ?_); refine box_event rfl rfl (cs := #[.int .i64 0, .int .i64 0]) (t := 25) (by first | (go_simp; done) | (go_simp; rfl)) ?_; intro gb248 hg w86 hbox hb; have BK248 := Aside0.mk (hbox); have GW248 := bz HB hg; have GE248 := bz HB hg; replace HB := bs HB hb; have NB235_248 := bl BK235 hg; have NB248_235 := bg BK235 hg; replace BK235 := bb BK235 hb; have NB236_248 := bl BK236 hg; have NB248_236 := bg BK236 hg; replace BK236 := bb BK236 hb; have NB237_248 := bl BK237 hg; have NB248_237 := bg BK237 hg; replace BK237 := bb BK237 hb; clear hb hbox hg; have hnb87 := NB248_235.out; have hnc87 := NB235_248.out; have hnb88 := NB248_236.out; have hnc88 := NB236_248.out; have hnb89 := NB248_237.out; have hnc89 := NB237_248.out; have hcz90_0 : w86.cell? ⟨gb248, 0, none⟩ = some (.int .i64 0) := (blk_cell BK248.out 0).trans rfl; have hcz90_1 : w86.cell? ⟨gb248, 1, none⟩ = some (.int .i64 0) := (blk_cell BK248.out 1).trans rfl; have hfz90_0 := blk_frozen BK248.out 0; have hfz90_1 := blk_frozen BK248.out 1; have hnb91 := NB235_237.out; have hnc91 := NB237_235.out; have hcz92_0 : w86.cell? ⟨gb235, 0, none⟩ = some (.int .i64 a0_0) := (blk_cell BK235.out 0).trans rfl; have hcz92_1 : w86.cell? ⟨gb235, 1, none⟩ = some (.int .i64 a0_1) := (blk_cell BK235.out 1).trans rfl; have hfz92_0 := blk_frozen BK235.out 0; have hfz92_1 := blk_frozen BK235.out 1; have hcz93_0 : w86.cell? ⟨gb237, 0, none⟩ = some (.int .i64 0) := (blk_cell BK237.out 0).trans rfl; have hcz93_1 : w86.cell? ⟨gb237, 1, none⟩ = some (.int .i64 0) := (blk_cell BK237.out 1).trans rfl; have hcz93_2 : w86.cell? ⟨gb237, 2, none⟩ = some (.bool false) := (blk_cell BK237.out 2).trans rfl; have hcz93_3 : w86.cell? ⟨gb237, 3, none⟩ = some (.int .i64 0) := (blk_cell BK237.out 3).trans rfl; have hfz93_0 := blk_frozen BK237.out 0; have hfz93_1 := blk_frozen BK237.out 1; have hfz93_2 := blk_frozen BK237.out 2; have hfz93_3 := blk_frozen BK237.out 3)))
        all_goals (refine bodyPost_ret (results_cell_row rfl _ _ gb237 28 #[.int .i64 0, .int .i64 ji82, .bool true, .int .i64 t242] (0, 0) _ rfl (by (with_reducible repeat (first | refine blk_drewN ?_ _ | refine blk_drew ?_ | refine blk_alloc ?_ _)); refine blk_put (cs := #[.int .i64 0, .int .i64 ji82, .bool true, .int .i64 0]) ?_ 3 _ rfl; (with_reducible repeat (first | refine blk_drewN ?_ _ | refine blk_drew ?_ | refine blk_alloc ?_ _)); refine blk_put (cs := #[.int .i64 0, .int .i64 ji82, .bool false, .int .i64 0]) ?_ 2 _ rfl; (with_reducible repeat (first | refine blk_drewN ?_ _ | refine blk_drew ?_ | refine blk_alloc ?_ _)); refine blk_put (cs := #[.int .i64 0, .int .i64 0, .bool false, .int .i64 0]) ?_ 1 _ rfl; (with_reducible repeat (first | refine blk_drewN ?_ _ | refine blk_drew ?_ | refine blk_alloc ?_ _)); refine blk_put (cs := #[.int .i64 0, .int .i64 0, .bool false, .int .i64 0]) ?_ 0 _ rfl; (with_reducible repeat (first | refine blk_drewN ?_ _ | refine blk_drew ?_ | refine blk_alloc ?_ _)); refine blk_far ?_ NB237_248.out _; (with_reducible repeat (first | refine blk_drewN ?_ _ | refine blk_drew ?_ | refine blk_alloc ?_ _)); refine blk_far ?_ NB237_248.out _; (with_reducible repeat (first | refine blk_drewN ?_ _ | refine blk_drew ?_ | refine blk_alloc ?_ _)); refine blk_far ?_ NB237_248.out _; (with_reducible repeat (first | refine blk_drewN ?_ _ | refine blk_drew ?_ | refine blk_alloc ?_ _)); exact BK237.out) Try.underlying28 rfl (by kernel_rfl)) rfl ?_; exact ⟨by first | rfl | (simp [errW_none, errW_some] <;> rfl) | (simp only [← hji54, ← hji82]; first | rfl | (simp [errW_none, errW_some] <;> rfl)) | (simp [*, errW_none, errW_some] <;> rfl), bw HB⟩)
       ·rw [if_neg c81] at H
        have c81b0 : decide (0 < a0_1) = false := decide_eq_false c81
        clear c81
        simp only [Option.some.injEq, Prod.mk.injEq] at H
        obtain ⟨rfl, rfl, rfl, rfl⟩ := H
        have hnb94 := NB236_235.out
        have hnc94 := NB235_236.out
        have hnb95 := NB236_237.out
        have hnc95 := NB237_236.out
        have hcz96_0 : wc.cell? ⟨gb236, 0, none⟩ = some (.int .i64 a1_0) := (blk_cell BK236.out 0).trans rfl
        have hcz96_1 : wc.cell? ⟨gb236, 1, none⟩ = some (.int .i64 a1_1) := (blk_cell BK236.out 1).trans rfl
        have hfz96_0 := blk_frozen BK236.out 0
        have hfz96_1 := blk_frozen BK236.out 1
        have tok_ : True := trivial
        repeat ((first | clear tok_ | go_quiet (first | (go_at_call 59; (with_reducible refine (impl_distance.calls a1_0 t246 _ A52.out).mono ?_); rintro e w' ⟨rfl, ⟨nd, rfl⟩⟩; (try exact qd)) | (go_at_call 59; (with_reducible refine (impl_distance.calls a1_1 t247 _ A53.out).mono ?_); rintro e w' ⟨rfl, ⟨nd, rfl⟩⟩; (try exact qd)))); try go_wp2_with (first | (go_at_call 59; (with_reducible refine (impl_distance.calls a1_0 t246 _ A52.out).mono ?_); rintro e w' ⟨rfl, ⟨nd, rfl⟩⟩; (try exact qd)) | (go_at_call 59; (with_reducible refine (impl_distance.calls a1_1 t247 _ A53.out).mono ?_); rintro e w' ⟨rfl, ⟨nd, rfl⟩⟩; (try exact qd)) | ((with_reducible refine gate_dst (N := 8) rfl ?_); refine box_event rfl rfl (cs := #[.int .i64 0, .int .i64 0]) (t := 25) (by first | (go_simp; done) | (go_simp; rfl)) ?_; intro gb248 hg w97 hbox hb; have BK248 := Aside0.mk (hbox); have GW248 := bz HB hg; have GE248 := bz HB hg; replace HB := bs HB hb; have NB235_248 := bl BK235 hg; have NB248_235 := bg BK235 hg; replace BK235 := bb BK235 hb; have NB236_248 := bl BK236 hg; have NB248_236 := bg BK236 hg; replace BK236 := bb BK236 hb; have NB237_248 := bl BK237 hg; have NB248_237 := bg BK237 hg; replace BK237 := bb BK237 hb; clear hb hbox hg; have hnb98 := NB248_235.out; have hnc98 := NB235_248.out; have hnb99 := NB248_236.out; have hnc99 := NB236_248.out; have hnb100 := NB248_237.out; have hnc100 := NB237_248.out; have hcz101_0 : w97.cell? ⟨gb248, 0, none⟩ = some (.int .i64 0) := (blk_cell BK248.out 0).trans rfl; have hcz101_1 : w97.cell? ⟨gb248, 1, none⟩ = some (.int .i64 0) := (blk_cell BK248.out 1).trans rfl; have hfz101_0 := blk_frozen BK248.out 0; have hfz101_1 := blk_frozen BK248.out 1; have hnb102 := NB235_237.out; have hnc102 := NB237_235.out; have hcz103_0 : w97.cell? ⟨gb235, 0, none⟩ = some (.int .i64 a0_0) := (blk_cell BK235.out 0).trans rfl; have hcz103_1 : w97.cell? ⟨gb235, 1, none⟩ = some (.int .i64 a0_1) := (blk_cell BK235.out 1).trans rfl; have hfz103_0 := blk_frozen BK235.out 0; have hfz103_1 := blk_frozen BK235.out 1; have hcz104_0 : w97.cell? ⟨gb237, 0, none⟩ = some (.int .i64 0) := (blk_cell BK237.out 0).trans rfl; have hcz104_1 : w97.cell? ⟨gb237, 1, none⟩ = some (.int .i64 0) := (blk_cell BK237.out 1).trans rfl; have hcz104_2 : w97.cell? ⟨gb237, 2, none⟩ = some (.bool false) := (blk_cell BK237.out 2).trans rfl; have hcz104_3 : w97.cell? ⟨gb237, 3, none⟩ = some (.int .i64 0) := (blk_cell BK237.out 3).trans rfl; have hfz104_0 := blk_frozen BK237.out 0; have hfz104_1 := blk_frozen BK237.out 1; have hfz104_2 := blk_frozen BK237.out 2; have hfz104_3 := blk_frozen BK237.out 3)))
        all_goals (refine bodyPost_ret (results_cell_row rfl _ _ gb237 28 #[.int .i64 0, .int .i64 0, .bool true, .int .i64 t242] (0, 0) _ rfl (by (with_reducible repeat (first | refine blk_drewN ?_ _ | refine blk_drew ?_ | refine blk_alloc ?_ _)); refine blk_put (cs := #[.int .i64 0, .int .i64 0, .bool true, .int .i64 0]) ?_ 3 _ rfl; (with_reducible repeat (first | refine blk_drewN ?_ _ | refine blk_drew ?_ | refine blk_alloc ?_ _)); refine blk_put (cs := #[.int .i64 0, .int .i64 0, .bool false, .int .i64 0]) ?_ 2 _ rfl; (with_reducible repeat (first | refine blk_drewN ?_ _ | refine blk_drew ?_ | refine blk_alloc ?_ _)); refine blk_put (cs := #[.int .i64 0, .int .i64 0, .bool false, .int .i64 0]) ?_ 1 _ rfl; (with_reducible repeat (first | refine blk_drewN ?_ _ | refine blk_drew ?_ | refine blk_alloc ?_ _)); refine blk_put (cs := #[.int .i64 0, .int .i64 0, .bool false, .int .i64 0]) ?_ 0 _ rfl; (with_reducible repeat (first | refine blk_drewN ?_ _ | refine blk_drew ?_ | refine blk_alloc ?_ _)); refine blk_far ?_ NB237_248.out _; (with_reducible repeat (first | refine blk_drewN ?_ _ | refine blk_drew ?_ | refine blk_alloc ?_ _)); refine blk_far ?_ NB237_248.out _; (with_reducible repeat (first | refine blk_drewN ?_ _ | refine blk_drew ?_ | refine blk_alloc ?_ _)); exact BK237.out) Try.underlying28 rfl (by kernel_rfl)) rfl ?_; exact ⟨by first | rfl | (simp [errW_none, errW_some] <;> rfl) | (simp only [← hji54]; first | rfl | (simp [errW_none, errW_some] <;> rfl)) | (simp [*, errW_none, errW_some] <;> rfl), bw HB⟩)
 ·replace c4 := Bool.eq_false_iff.mpr c4
  subst c4
  have H1 : (some (0, 0, false, 0)) = some (r1, r2, r3, r4) := by rw [if_neg (show ¬ (false = true) by decide)] at H; exact H
  clear H
  have H := H1
  clear H1
  simp only [Option.some.injEq, Prod.mk.injEq] at H
  obtain ⟨rfl, rfl, rfl, rfl⟩ := H
  go_enter Try.func35, Try.ntmps35
  have tok_ : True := trivial
  repeat ((first | clear tok_ | go_quiet (fail)); try go_wp2_with (first | ((with_reducible refine gate_dst (N := 2) rfl ?_); refine box_event rfl rfl (cs := #[.int .i64 a0_0, .int .i64 a0_1]) (t := 25) (by first | (go_simp; done) | (go_simp; rfl)) ?_; intro gb235 hg w105 hbox hb; have BK235 := Aside0.mk (hbox); have GW235 := bz HB hg; have GE235 := bz HB hg; replace HB := bs HB hb; clear hb hbox hg) | ((with_reducible refine gate_dst (N := 3) rfl ?_); refine box_event rfl rfl (cs := #[.int .i64 a1_0, .int .i64 a1_1]) (t := 25) (by first | (go_simp; done) | (go_simp; rfl)) ?_; intro gb236 hg w106 hbox hb; have BK236 := Aside0.mk (hbox); have GW236 := bz HB hg; have GE236 := bz HB hg; replace HB := bs HB hb; have NB235_236 := bl BK235 hg; have NB236_235 := bg BK235 hg; replace BK235 := bb BK235 hb; clear hb hbox hg) | ((with_reducible refine gate_dst (N := 4) rfl ?_); refine box_event rfl rfl (cs := #[.int .i64 0, .int .i64 0, .bool false, .int .i64 0]) (t := 28) (by first | (go_simp; done) | (go_simp; rfl)) ?_; intro gb237 hg w107 hbox hb; have BK237 := Aside0.mk (hbox); have GW237 := bz HB hg; have GE237 := bz HB hg; replace HB := bs HB hb; have NB235_237 := bl BK235 hg; have NB237_235 := bg BK235 hg; replace BK235 := bb BK235 hb; have NB236_237 := bl BK236 hg; have NB237_236 := bg BK236 hg; replace BK236 := bb BK236 hb; clear hb hbox hg; have hnb108 := NB235_236.out; have hnc108 := NB236_235.out; have hnb109 := NB235_237.out; have hnc109 := NB237_235.out; have hcz110_0 : w107.cell? ⟨gb235, 0, none⟩ = some (.int .i64 a0_0) := (blk_cell BK235.out 0).trans rfl; have hcz110_1 : w107.cell? ⟨gb235, 1, none⟩ = some (.int .i64 a0_1) := (blk_cell BK235.out 1).trans rfl; have hfz110_0 := blk_frozen BK235.out 0; have hfz110_1 := blk_frozen BK235.out 1; have hnb111 := NB236_237.out; have hnc111 := NB237_236.out; have hcz112_0 : w107.cell? ⟨gb236, 0, none⟩ = some (.int .i64 a1_0) := (blk_cell BK236.out 0).trans rfl; have hcz112_1 : w107.cell? ⟨gb236, 1, none⟩ = some (.int .i64 a1_1) := (blk_cell BK236.out 1).trans rfl; have hfz112_0 := blk_frozen BK236.out 0; have hfz112_1 := blk_frozen BK236.out 1) | (go_at_call 46; (with_reducible refine (impl_areIvs.calls a0_0 a0_1 a1_0 a1_1 false _ A3.out).mono ?_); rintro e w113 ⟨rfl, hb⟩; replace BK235 := bb BK235 hb; replace BK236 := bb BK236 hb; replace BK237 := bb BK237 hb; replace HB := bs HB hb; (try clear hb); (try clear hb2); (try clear hk); (try clear hi); have hcz114_0 : w113.cell? ⟨gb237, 0, none⟩ = some (.int .i64 0) := (blk_cell BK237.out 0).trans rfl; have hcz114_1 : w113.cell? ⟨gb237, 1, none⟩ = some (.int .i64 0) := (blk_cell BK237.out 1).trans rfl; have hcz114_2 : w113.cell? ⟨gb237, 2, none⟩ = some (.bool false) := (blk_cell BK237.out 2).trans rfl; have hcz114_3 : w113.cell? ⟨gb237, 3, none⟩ = some (.int .i64 0) := (blk_cell BK237.out 3).trans rfl; have hfz114_0 := blk_frozen BK237.out 0; have hfz114_1 := blk_frozen BK237.out 1; have hfz114_2 := blk_frozen BK237.out 2; have hfz114_3 := blk_frozen BK237.out 3)))
  all_goals (refine bodyPost_ret (results_cell_row rfl _ _ gb237 28 #[.int .i64 0, .int .i64 0, .bool false, .int .i64 0] (0, 0) _ rfl (by (with_reducible repeat (first | refine blk_drewN ?_ _ | refine blk_drew ?_ | refine blk_alloc ?_ _)); refine blk_put (cs := #[.int .i64 0, .int .i64 0, .bool false, .int .i64 0]) ?_ 3 _ rfl; (with_reducible repeat (first | refine blk_drewN ?_ _ | refine blk_drew ?_ | refine blk_alloc ?_ _)); refine blk_put (cs := #[.int .i64 0, .int .i64 0, .bool false, .int .i64 0]) ?_ 2 _ rfl; (with_reducible repeat (first | refine blk_drewN ?_ _ | refine blk_drew ?_ | refine blk_alloc ?_ _)); refine blk_put (cs := #[.int .i64 0, .int .i64 0, .bool false, .int .i64 0]) ?_ 1 _ rfl; (with_reducible repeat (first | refine blk_drewN ?_ _ | refine blk_drew ?_ | refine blk_alloc ?_ _)); refine blk_put (cs := #[.int .i64 0, .int .i64 0, .bool false, .int .i64 0]) ?_ 0 _ rfl; (with_reducible repeat (first | refine blk_drewN ?_ _ | refine blk_drew ?_ | refine blk_alloc ?_ _)); exact BK237.out) Try.underlying28 rfl (by kernel_rfl)) rfl ?_; exact ⟨by first | rfl | (simp [errW_none, errW_some] <;> rfl) | (simp [*, errW_none, errW_some] <;> rfl), bw HB⟩)

end Go.Proofs.Ytdjhalelgknnkaa.Q
