-- Contracts of the program's functions, each with the plain function that it computes.
import Derived.Test.YtdjhalelgknnkaaQx0
import Derived.Test.YtdjhalelgknnkaaQx3
import Derived.Test.YtdjhalelgknnkaaQx4
import Derived.Test.YtdjhalelgknnkaaQx15
import Derived.Test.YtdjhalelgknnkaaQx19
namespace Go.Proofs.Ytdjhalelgknnkaa.Q
open Go.RowKit Go.Proofs.YtdjhalelgknnkaaW.PrintWords Go.Proofs.YtdjhalelgknnkaaW.PrintLast Go.Proofs.YtdjhalelgknnkaaW.PrintMore
attribute [local go_sem] max2_int min2_int max_two min_two max_three min_three max_four min_four   -- for this text's walks alone
theorem spec_IvRem.cell_twice (w : World) (a : Addr) (u v : Value) : ((w.setCell a u).setCell a v).cell? a = (w.setCell a v).cell? a := by
 simp only [World.setCell, World.cell?, Array.getElem?_modify, if_true, Option.map_map]
 cases w.heap[a.block]? with
 | none => rfl
 | some x => cases x <;> simp [Function.comp] <;> (try (cases a.spot.isSome <;> simp [Array.getElem?_setIfInBounds]))
attribute [local go_sem] spec_IvRem.cell_twice
set_option linter.unusedVariables false
set_option linter.unusedSimpArgs false

/-! ### spec_IvRem: function 36 -/
mutual
def spec_IvRem.j0 : Nat → Bool → Int → Int → Int → Int → Option (Int × Int × Bool × Int)
 | 0, _, _, _, _, _ => none
 | k + 1, x15, x250000, x250001, x251000, x251001 => if x15 = true then (some (0, 0, false, 0)) else ((spec_IvHas.f x251000 x251001 0).bind fun t255 => (if t255 = true then (spec_IvRem.j1 k x250000 x250001 x251000 x251001 0 0 false 1) else (spec_IvRem.j1 k x250000 x250001 x251000 x251001 0 0 false 0)))
def spec_IvRem.j1 : Nat → Int → Int → Int → Int → Int → Int → Bool → Int → Option (Int × Int × Bool × Int)
 | 0, _, _, _, _, _, _, _, _ => none
 | k + 1, x250000, x250001, x251000, x251001, x255000, x255001, x255002, x255003 => (spec_l2Parts.f x251000 x251001).bind fun t256 => (if (t256.length : Int) = 0 then (some (x255000, x255001, x255002, x255003)) else (if x250000 = x250001 then (spec_IvRem.j2 k (x251000 == x251001) x250000 x250001 x251000 x251001 x255000 x255001 true x255003) else (spec_IvRem.j2 k false x250000 x250001 x251000 x251001 x255000 x255001 true x255003)))
def spec_IvRem.j2 : Nat → Bool → Int → Int → Int → Int → Int → Int → Bool → Int → Option (Int × Int × Bool × Int)
 | 0, _, _, _, _, _, _, _, _, _ => none
 | k + 1, x38, x250000, x250001, x251000, x251001, x255000, x255001, x255002, x255003 => if x38 = true then ((spec_NumRem.f x250000 x251000).bind fun t259 => (some (t259, t259, x255002, x255003))) else ((spec_l1Abs.f x251000).bind fun t260 => ((spec_l1Abs.f x251001).bind fun t261 => (if x250000 < 0 then (if x250001 > 0 then (some (mx (wrap64 (-(wrap64 (IntKind.u64.wrap ((mx t260 t261) - 1))))) x250000, mn (wrap64 (IntKind.u64.wrap ((mx t260 t261) - 1))) x250001, x255002, x255003)) else (some (mx (wrap64 (-(wrap64 (IntKind.u64.wrap ((mx t260 t261) - 1))))) x250000, x255001, x255002, x255003))) else (if x250001 > 0 then (some (x255000, mn (wrap64 (IntKind.u64.wrap ((mx t260 t261) - 1))) x250001, x255002, x255003)) else (some (x255000, x255001, x255002, x255003))))))
end
def spec_IvRem.f (k : Nat) (a0_0 : Int) (a0_1 : Int) (a1_0 : Int) (a1_1 : Int) : Option (Int × Int × Bool × Int) := (spec_IvOk.f a0_0 a0_1).bind fun t252 => (if t252 = true then ((spec_IvOk.f a1_0 a1_1).bind fun t253 => (spec_IvRem.j0 k (!t253) a0_0 a0_1 a1_0 a1_1)) else (spec_IvRem.j0 k true a0_0 a0_1 a1_0 a1_1))
theorem spec_IvRem.mono_l : ∀ k, (∀ y0 y1 y2 y3 y4, LeO (spec_IvRem.j0 k y0 y1 y2 y3 y4) (spec_IvRem.j0 (k + 1) y0 y1 y2 y3 y4)) ∧ (∀ y0 y1 y2 y3 y4 y5 y6 y7, LeO (spec_IvRem.j1 k y0 y1 y2 y3 y4 y5 y6 y7) (spec_IvRem.j1 (k + 1) y0 y1 y2 y3 y4 y5 y6 y7)) ∧ (∀ y0 y1 y2 y3 y4 y5 y6 y7 y8, LeO (spec_IvRem.j2 k y0 y1 y2 y3 y4 y5 y6 y7 y8) (spec_IvRem.j2 (k + 1) y0 y1 y2 y3 y4 y5 y6 y7 y8))
 | 0 => ⟨fun _ _ _ _ _ r h => by simp [spec_IvRem.j0] at h, fun _ _ _ _ _ _ _ _ r h => by simp [spec_IvRem.j1] at h, fun _ _ _ _ _ _ _ _ _ r h => by simp [spec_IvRem.j2] at h⟩
 | k + 1 => by
  obtain ⟨ih0, ih1, ih2⟩ := spec_IvRem.mono_l k
  refine ⟨?_, ?_, ?_⟩
  ·intro y0 y1 y2 y3 y4
   unfold spec_IvRem.j0
   repeat' first
   | (with_reducible exact ih0 _ _ _ _ _)
   | (with_reducible exact ih1 _ _ _ _ _ _ _ _)
   | (with_reducible exact ih2 _ _ _ _ _ _ _ _ _)
   | (with_reducible exact LeO.refl _)
   | (with_reducible exact LeO.none _)
   | (with_reducible refine LeO.ite ?_ ?_)
   | (with_reducible refine LeO.bind ?_ (fun _ => ?_))
   | exact ih0 _ _ _ _ _
   | exact ih1 _ _ _ _ _ _ _ _
   | exact ih2 _ _ _ _ _ _ _ _ _
   | exact LeO.none _
   | refine LeO.ite ?_ ?_
   | refine LeO.bind ?_ (fun _ => ?_)
  ·intro y0 y1 y2 y3 y4 y5 y6 y7
   unfold spec_IvRem.j1
   repeat' first
   | (with_reducible exact ih0 _ _ _ _ _)
   | (with_reducible exact ih1 _ _ _ _ _ _ _ _)
   | (with_reducible exact ih2 _ _ _ _ _ _ _ _ _)
   | (with_reducible exact LeO.refl _)
   | (with_reducible exact LeO.none _)
   | (with_reducible refine LeO.ite ?_ ?_)
   | (with_reducible refine LeO.bind ?_ (fun _ => ?_))
   | exact ih0 _ _ _ _ _
   | exact ih1 _ _ _ _ _ _ _ _
   | exact ih2 _ _ _ _ _ _ _ _ _
   | exact LeO.none _
   | refine LeO.ite ?_ ?_
   | refine LeO.bind ?_ (fun _ => ?_)
  ·intro y0 y1 y2 y3 y4 y5 y6 y7 y8
   unfold spec_IvRem.j2
   repeat' first
   | (with_reducible exact ih0 _ _ _ _ _)
   | (with_reducible exact ih1 _ _ _ _ _ _ _ _)
   | (with_reducible exact ih2 _ _ _ _ _ _ _ _ _)
   | (with_reducible exact LeO.refl _)
   | (with_reducible exact LeO.none _)
   | (with_reducible refine LeO.ite ?_ ?_)
   | (with_reducible refine LeO.bind ?_ (fun _ => ?_))
   | exact ih0 _ _ _ _ _
   | exact ih1 _ _ _ _ _ _ _ _
   | exact ih2 _ _ _ _ _ _ _ _ _
   | exact LeO.none _
   | refine LeO.ite ?_ ?_
   | refine LeO.bind ?_ (fun _ => ?_)
theorem spec_IvRem.mono : ∀ a0 a1 a2 a3 k, LeO (spec_IvRem.f k a0 a1 a2 a3) (spec_IvRem.f (k + 1) a0 a1 a2 a3) := by
 intro a0 a1 a2 a3 k
 obtain ⟨ih0, ih1, ih2⟩ := spec_IvRem.mono_l k
 unfold spec_IvRem.f
 repeat' first
   | (with_reducible exact ih0 _ _ _ _ _)
   | (with_reducible exact ih1 _ _ _ _ _ _ _ _)
   | (with_reducible exact ih2 _ _ _ _ _ _ _ _ _)
   | (with_reducible exact LeO.refl _)
   | (with_reducible exact LeO.none _)
   | (with_reducible refine LeO.ite ?_ ?_)
   | (with_reducible refine LeO.bind ?_ (fun _ => ?_))
   | exact ih0 _ _ _ _ _
   | exact ih1 _ _ _ _ _ _ _ _
   | exact ih2 _ _ _ _ _ _ _ _ _
   | exact LeO.none _
   | refine LeO.ite ?_ ?_
   | refine LeO.bind ?_ (fun _ => ?_)
set_option maxHeartbeats 8000000 in
set_option maxRecDepth 100000 in
theorem spec_IvRem.calls (k : Nat) (a0_0 : Int) (a0_1 : Int) (a1_0 : Int) (a1_1 : Int) (r1 : Int) (r2 : Int) (r3 : Bool) (r4 : Int) (w : World) (h : spec_IvRem.f k a0_0 a0_1 a1_0 a1_1 = some (r1, r2, r3, r4)) :
  Calls Try.prog 36 #[.agg #[.int .i64 a0_0, .int .i64 a0_1], .agg #[.int .i64 a1_0, .int .i64 a1_1]] w fun e w' => e = .returned (.agg #[.int .i64 r1, .int .i64 r2, .bool r3, .int .i64 r4]) ∧ Below w.heap.size w w' := by
 have hu25 := Try.underlying25
 have hu28 := Try.underlying28
 have HB := Aside0.mk (Below.refl w.heap.size w)
 have H : ((spec_IvOk.f a0_0 a0_1).bind fun t252 => (if t252 = true then ((spec_IvOk.f a1_0 a1_1).bind fun t253 => (spec_IvRem.j0 k (!t253) a0_0 a0_1 a1_0 a1_1)) else (spec_IvRem.j0 k true a0_0 a0_1 a1_0 a1_1))) = some (r1, r2, r3, r4) := h
 clear h
 have HC3 := Aside0.mk H
 clear H
 go_enter Try.func36, Try.ntmps36
 have tok_ : True := trivial
 repeat ((first | clear tok_ | go_quiet (fail)); go_upto_region 1 with (first | ((with_reducible refine gate_dst (N := 2) rfl ?_); refine box_event rfl rfl (cs := #[.int .i64 a0_0, .int .i64 a0_1]) (t := 25) (by first | (go_simp; done) | (go_simp; rfl)) ?_; intro gb249 hg w4 hbox hb; have BK249 := Aside0.mk (hbox); have GW249 := bz HB hg; have GE249 := bz HB hg; replace HB := bs HB hb; clear hb hbox hg) | ((with_reducible refine gate_dst (N := 3) rfl ?_); refine box_event rfl rfl (cs := #[.int .i64 a1_0, .int .i64 a1_1]) (t := 25) (by first | (go_simp; done) | (go_simp; rfl)) ?_; intro gb250 hg w5 hbox hb; have BK250 := Aside0.mk (hbox); have GW250 := bz HB hg; have GE250 := bz HB hg; replace HB := bs HB hb; have NB249_250 := bl BK249 hg; have NB250_249 := bg BK249 hg; replace BK249 := bb BK249 hb; clear hb hbox hg) | ((with_reducible refine gate_dst (N := 4) rfl ?_); refine box_event rfl rfl (cs := #[.int .i64 0, .int .i64 0, .bool false, .int .i64 0]) (t := 28) (by first | (go_simp; done) | (go_simp; rfl)) ?_; intro gb251 hg w6 hbox hb; have BK251 := Aside0.mk (hbox); have GW251 := bz HB hg; have GE251 := bz HB hg; replace HB := bs HB hb; have NB249_251 := bl BK249 hg; have NB251_249 := bg BK249 hg; replace BK249 := bb BK249 hb; have NB250_251 := bl BK250 hg; have NB251_250 := bg BK250 hg; replace BK250 := bb BK250 hb; clear hb hbox hg)))
 (try simp only [Act.put, List.setIfInBounds_toArray, List.set_cons_zero, List.set_cons_succ])
 go_cut [15] (fun v15 wc => ∃ (kq : Nat) (x15_2 : Bool), v15 = .bool x15_2 ∧ Aside0 (spec_IvRem.j0 kq x15_2 a0_0 a0_1 a1_0 a1_1 = some (r1, r2, r3, r4)) ∧ Aside0 (kq ≤ k) ∧ Aside0 (wc.heap[gb249]? = some (.cells #[.int .i64 a0_0, .int .i64 a0_1] 25 (0, 0))) ∧ Aside0 (wc.heap[gb250]? = some (.cells #[.int .i64 a1_0, .int .i64 a1_1] 25 (0, 0))) ∧ Aside0 (wc.heap[gb251]? = some (.cells #[.int .i64 0, .int .i64 0, .bool false, .int .i64 0] 28 (0, 0))) ∧ Aside0 (Below w.heap.size w wc))
 case first =>
  have H := HC3.out
  clear HC3
  replace H := Option.bind_eq_some_iff.mp H
  obtain ⟨t252, A70, H⟩ := H
  replace H : (if t252 = true then ((spec_IvOk.f a1_0 a1_1).bind fun t253 => (spec_IvRem.j0 k (!t253) a0_0 a0_1 a1_0 a1_1)) else (spec_IvRem.j0 k true a0_0 a0_1 a1_0 a1_1)) = some (r1, r2, r3, r4) := H
  have A7 := Aside0.mk A70
  clear A70
  by_cases c8 : t252 = true
  ·subst c8
   have H1 : ((spec_IvOk.f a1_0 a1_1).bind fun t253 => (spec_IvRem.j0 k (!t253) a0_0 a0_1 a1_0 a1_1)) = some (r1, r2, r3, r4) := by rw [if_pos rfl] at H; exact H
   clear H
   have H := H1
   clear H1
   replace H := Option.bind_eq_some_iff.mp H
   obtain ⟨t253, A90, H⟩ := H
   replace H : (spec_IvRem.j0 k (!t253) a0_0 a0_1 a1_0 a1_1) = some (r1, r2, r3, r4) := H
   have A9 := Aside0.mk A90
   clear A90
   have H' := Aside0.mk H
   clear H
   have hnb10 := NB249_250.out
   have hnc10 := NB250_249.out
   have hnb11 := NB249_251.out
   have hnc11 := NB251_249.out
   have hcz12_0 : w6.cell? ⟨gb249, 0, none⟩ = some (.int .i64 a0_0) := (blk_cell BK249.out 0).trans rfl
   have hcz12_1 : w6.cell? ⟨gb249, 1, none⟩ = some (.int .i64 a0_1) := (blk_cell BK249.out 1).trans rfl
   have hfz12_0 := blk_frozen BK249.out 0
   have hfz12_1 := blk_frozen BK249.out 1
   have tok_ : True := trivial
   repeat ((first | clear tok_ | go_quiet (fail)); try go_wp2_with (first | (go_at_call 12; (with_reducible refine (spec_IvOk.calls a0_0 a0_1 true _ A7.out).mono ?_); rintro e w13 ⟨rfl, hb⟩; replace BK249 := bb BK249 hb; replace BK250 := bb BK250 hb; replace BK251 := bb BK251 hb; replace HB := bs HB hb; (try clear hb); (try clear hb2); (try clear hk); (try clear hi); have hnb14 := NB250_251.out; have hnc14 := NB251_250.out; have hcz15_0 : w13.cell? ⟨gb250, 0, none⟩ = some (.int .i64 a1_0) := (blk_cell BK250.out 0).trans rfl; have hcz15_1 : w13.cell? ⟨gb250, 1, none⟩ = some (.int .i64 a1_1) := (blk_cell BK250.out 1).trans rfl; have hfz15_0 := blk_frozen BK250.out 0; have hfz15_1 := blk_frozen BK250.out 1) | (go_at_call 12; (with_reducible refine (spec_IvOk.calls a1_0 a1_1 t253 _ A9.out).mono ?_); rintro e w16 ⟨rfl, hb⟩; replace BK249 := bb BK249 hb; replace BK250 := bb BK250 hb; replace BK251 := bb BK251 hb; replace HB := bs HB hb; (try clear hb); (try clear hb2); (try clear hk); (try clear hi))))
   go_meet
   case rel => exact ⟨_, (!t253), (by first | rfl | (simp; done) | (simp [*]; done)), H', ⟨by first | omega | exact Nat.le_refl _⟩, ⟨bx BK249⟩, ⟨bx BK250⟩, ⟨bx BK251⟩, ⟨bw HB⟩⟩
  ·replace c8 := Bool.eq_false_iff.mpr c8
   subst c8
   have H1 : (spec_IvRem.j0 k true a0_0 a0_1 a1_0 a1_1) = some (r1, r2, r3, r4) := by rw [if_neg (show ¬ (false = true) by decide)] at H; exact H
   clear H
   have H := H1
   clear H1
   have H' := Aside0.mk H
   clear H
   have hnb17 := NB249_250.out
   have hnc17 := NB250_249.out
   have hnb18 := NB249_251.out
   have hnc18 := NB251_249.out
   have hcz19_0 : w6.cell? ⟨gb249, 0, none⟩ = some (.int .i64 a0_0) := (blk_cell BK249.out 0).trans rfl
   have hcz19_1 : w6.cell? ⟨gb249, 1, none⟩ = some (.int .i64 a0_1) := (blk_cell BK249.out 1).trans rfl
   have hfz19_0 := blk_frozen BK249.out 0
   have hfz19_1 := blk_frozen BK249.out 1
   have tok_ : True := trivial
   repeat ((first | clear tok_ | go_quiet (fail)); try go_wp2_with ((go_at_call 12; (with_reducible refine (spec_IvOk.calls a0_0 a0_1 false _ A7.out).mono ?_); rintro e w20 ⟨rfl, hb⟩; replace BK249 := bb BK249 hb; replace BK250 := bb BK250 hb; replace BK251 := bb BK251 hb; replace HB := bs HB hb; (try clear hb); (try clear hb2); (try clear hk); (try clear hi))))
   go_meet
   case rel => exact ⟨_, (true), (by first | rfl | (simp; done) | (simp [*]; done)), H', ⟨by first | omega | exact Nat.le_refl _⟩, ⟨bx BK249⟩, ⟨bx BK250⟩, ⟨bx BK251⟩, ⟨bw HB⟩⟩
 case rest =>
  clear HC3
  try clear c1
  try clear p2
  try clear c3
  try clear c8
  try clear c10
  try clear c11
  try clear c14
  try clear c17
  try clear c18
  try clear hcz12_0
  try clear hcz12_1
  try clear hcz15_0
  try clear hcz15_1
  try clear hcz19_0
  try clear hcz19_1
  try clear hfz12_0
  try clear hfz12_1
  try clear hfz15_0
  try clear hfz15_1
  try clear hfz19_0
  try clear hfz19_1
  obtain ⟨kq, x15_2, rfl, HA, HJ2, BK249, BK250, BK251, HB⟩ := hcut
  cases kq with
  | zero => exact absurd HA.out (by simp [spec_IvRem.j0])
  | succ kj2 =>
   have H := HA.out
   clear HA
   simp only [spec_IvRem.j0] at H
   by_cases c21 : x15_2 = true
   ·subst c21
    have H1 : (some (0, 0, false, 0)) = some (r1, r2, r3, r4) := by rw [if_pos rfl] at H; exact H
    clear H
    have H := H1
    clear H1
    simp only [Option.some.injEq, Prod.mk.injEq] at H
    obtain ⟨rfl, rfl, rfl, rfl⟩ := H
    have hnb22 := NB251_249.out
    have hnc22 := NB249_251.out
    have hnb23 := NB251_250.out
    have hnc23 := NB250_251.out
    have hcz24_0 : wc.cell? ⟨gb251, 0, none⟩ = some (.int .i64 0) := (blk_cell BK251.out 0).trans rfl
    have hcz24_1 : wc.cell? ⟨gb251, 1, none⟩ = some (.int .i64 0) := (blk_cell BK251.out 1).trans rfl
    have hcz24_2 : wc.cell? ⟨gb251, 2, none⟩ = some (.bool false) := (blk_cell BK251.out 2).trans rfl
    have hcz24_3 : wc.cell? ⟨gb251, 3, none⟩ = some (.int .i64 0) := (blk_cell BK251.out 3).trans rfl
    have hfz24_0 := blk_frozen BK251.out 0
    have hfz24_1 := blk_frozen BK251.out 1
    have hfz24_2 := blk_frozen BK251.out 2
    have hfz24_3 := blk_frozen BK251.out 3
    go_wp2
    repeat (go_quiet (fail); try go_wp2)
    all_goals (refine bodyPost_ret (results_cell_row rfl _ _ gb251 28 #[.int .i64 0, .int .i64 0, .bool false, .int .i64 0] (0, 0) _ rfl (by (with_reducible repeat (first | refine blk_drewN ?_ _ | refine blk_drew ?_ | refine blk_alloc ?_ _)); refine blk_put (cs := #[.int .i64 0, .int .i64 0, .bool false, .int .i64 0]) ?_ 3 _ rfl; (with_reducible repeat (first | refine blk_drewN ?_ _ | refine blk_drew ?_ | refine blk_alloc ?_ _)); refine blk_put (cs := #[.int .i64 0, .int .i64 0, .bool false, .int .i64 0]) ?_ 2 _ rfl; (with_reducible repeat (first | refine blk_drewN ?_ _ | refine blk_drew ?_ | refine blk_alloc ?_ _)); refine blk_put (cs := #[.int .i64 0, .int .i64 0, .bool false, .int .i64 0]) ?_ 1 _ rfl; (with_reducible repeat (first | refine blk_drewN ?_ _ | refine blk_drew ?_ | refine blk_alloc ?_ _)); refine blk_put (cs := #[.int .i64 0, .int .i64 0, .bool false, .int .i64 0]) ?_ 0 _ rfl; (with_reducible repeat (first | refine blk_drewN ?_ _ | refine blk_drew ?_ | refine blk_alloc ?_ _)); exact BK251.out) Try.underlying28 rfl (by kernel_rfl)) rfl ?_; exact ⟨by first | rfl | (simp [errW_none, errW_some] <;> rfl) | (simp [*, errW_none, errW_some] <;> rfl), bw HB⟩)
   ·replace c21 := Bool.eq_false_iff.mpr c21
    subst c21
    have H1 : ((spec_IvHas.f a1_0 a1_1 0).bind fun t255 => (if t255 = true then (spec_IvRem.j1 kj2 a0_0 a0_1 a1_0 a1_1 0 0 false 1) else (spec_IvRem.j1 kj2 a0_0 a0_1 a1_0 a1_1 0 0 false 0))) = some (r1, r2, r3, r4) := by rw [if_neg (show ¬ (false = true) by decide)] at H; exact H
    clear H
    have H := H1
    clear H1
    replace H := Option.bind_eq_some_iff.mp H
    obtain ⟨t255, A250, H⟩ := H
    replace H : (if t255 = true then (spec_IvRem.j1 kj2 a0_0 a0_1 a1_0 a1_1 0 0 false 1) else (spec_IvRem.j1 kj2 a0_0 a0_1 a1_0 a1_1 0 0 false 0)) = some (r1, r2, r3, r4) := H
    have A25 := Aside0.mk A250
    clear A250
    have HC26 := Aside0.mk H
    clear H
    have tok_ : True := trivial
    repeat ((first | clear tok_ | go_quiet ((go_at_call 57; (with_reducible refine (spec_IvHas.calls a1_0 a1_1 0 t255 _ A25.out).mono ?_); rintro e w35 ⟨rfl, hb⟩; replace BK249 := Aside0.mk (blk_below (g := gb249) (o := .cells #[.int .i64 a0_0, .int .i64 a0_1] 25 (0, 0)) (bx BK249) hb); replace BK250 := Aside0.mk (blk_below (g := gb250) (o := .cells #[.int .i64 a1_0, .int .i64 a1_1] 25 (0, 0)) (bx BK250) hb); replace BK251 := Aside0.mk (blk_below (g := gb251) (o := .cells #[.int .i64 0, .int .i64 0, .bool false, .int .i64 0] 28 (0, 0)) (bx BK251) hb); replace BK254 := Aside0.mk (blk_below (g := gb254) (o := .cells #[.int .i64 0, .int .i64 0, .bool false, .int .i64 0] 28 (0, 0)) (by (with_reducible repeat (first | refine blk_drewN ?_ _ | refine blk_drew ?_ | refine blk_alloc ?_ _)); refine blk_put (cs := #[.int .i64 0, .int .i64 0, .bool false, .int .i64 0]) ?_ 3 _ rfl; (with_reducible repeat (first | refine blk_drewN ?_ _ | refine blk_drew ?_ | refine blk_alloc ?_ _)); refine blk_put (cs := #[.int .i64 0, .int .i64 0, .bool false, .int .i64 0]) ?_ 2 _ rfl; (with_reducible repeat (first | refine blk_drewN ?_ _ | refine blk_drew ?_ | refine blk_alloc ?_ _)); refine blk_put (cs := #[.int .i64 0, .int .i64 0, .bool false, .int .i64 0]) ?_ 1 _ rfl; (with_reducible repeat (first | refine blk_drewN ?_ _ | refine blk_drew ?_ | refine blk_alloc ?_ _)); refine blk_put (cs := #[.int .i64 0, .int .i64 0, .bool false, .int .i64 0]) ?_ 0 _ rfl; (with_reducible repeat (first | refine blk_drewN ?_ _ | refine blk_drew ?_ | refine blk_alloc ?_ _)); exact BK254.out) hb); replace HB := bs HB hb; (try clear hb); (try clear hb2); (try clear hk); (try clear hi)))); go_upto_if 19 with (first | ((with_reducible refine gate_dst (N := 5) rfl ?_); refine box_event rfl rfl (cs := #[.int .i64 0, .int .i64 0, .bool false, .int .i64 0]) (t := 28) (by first | (go_simp; done) | (go_simp; rfl)) ?_; intro gb254 hg w27 hbox hb; have BK254 := Aside0.mk (hbox); have GW254 := bz HB hg; have GE254 := bz HB hg; replace HB := bs HB hb; have NB249_254 := bl BK249 hg; have NB254_249 := bg BK249 hg; replace BK249 := bb BK249 hb; have NB250_254 := bl BK250 hg; have NB254_250 := bg BK250 hg; replace BK250 := bb BK250 hb; have NB251_254 := bl BK251 hg; have NB254_251 := bg BK251 hg; replace BK251 := bb BK251 hb; clear hb hbox hg; have hnb28 := NB254_249.out; have hnc28 := NB249_254.out; have hnb29 := NB254_250.out; have hnc29 := NB250_254.out; have hnb30 := NB254_251.out; have hnc30 := NB251_254.out; have hcz31_0 : w27.cell? ⟨gb254, 0, none⟩ = some (.int .i64 0) := (blk_cell BK254.out 0).trans rfl; have hcz31_1 : w27.cell? ⟨gb254, 1, none⟩ = some (.int .i64 0) := (blk_cell BK254.out 1).trans rfl; have hcz31_2 : w27.cell? ⟨gb254, 2, none⟩ = some (.bool false) := (blk_cell BK254.out 2).trans rfl; have hcz31_3 : w27.cell? ⟨gb254, 3, none⟩ = some (.int .i64 0) := (blk_cell BK254.out 3).trans rfl; have hfz31_0 := blk_frozen BK254.out 0; have hfz31_1 := blk_frozen BK254.out 1; have hfz31_2 := blk_frozen BK254.out 2; have hfz31_3 := blk_frozen BK254.out 3; have hnb32 := NB250_249.out; have hnc32 := NB249_250.out; have hnb33 := NB250_251.out; have hnc33 := NB251_250.out; have hcz34_0 : w27.cell? ⟨gb250, 0, none⟩ = some (.int .i64 a1_0) := (blk_cell BK250.out 0).trans rfl; have hcz34_1 : w27.cell? ⟨gb250, 1, none⟩ = some (.int .i64 a1_1) := (blk_cell BK250.out 1).trans rfl; have hfz34_0 := blk_frozen BK250.out 0; have hfz34_1 := blk_frozen BK250.out 1) | (go_at_call 57; (with_reducible refine (spec_IvHas.calls a1_0 a1_1 0 t255 _ A25.out).mono ?_); rintro e w35 ⟨rfl, hb⟩; replace BK249 := Aside0.mk (blk_below (g := gb249) (o := .cells #[.int .i64 a0_0, .int .i64 a0_1] 25 (0, 0)) (bx BK249) hb); replace BK250 := Aside0.mk (blk_below (g := gb250) (o := .cells #[.int .i64 a1_0, .int .i64 a1_1] 25 (0, 0)) (bx BK250) hb); replace BK251 := Aside0.mk (blk_below (g := gb251) (o := .cells #[.int .i64 0, .int .i64 0, .bool false, .int .i64 0] 28 (0, 0)) (bx BK251) hb); replace BK254 := Aside0.mk (blk_below (g := gb254) (o := .cells #[.int .i64 0, .int .i64 0, .bool false, .int .i64 0] 28 (0, 0)) (by (with_reducible repeat (first | refine blk_drewN ?_ _ | refine blk_drew ?_ | refine blk_alloc ?_ _)); refine blk_put (cs := #[.int .i64 0, .int .i64 0, .bool false, .int .i64 0]) ?_ 3 _ rfl; (with_reducible repeat (first | refine blk_drewN ?_ _ | refine blk_drew ?_ | refine blk_alloc ?_ _)); refine blk_put (cs := #[.int .i64 0, .int .i64 0, .bool false, .int .i64 0]) ?_ 2 _ rfl; (with_reducible repeat (first | refine blk_drewN ?_ _ | refine blk_drew ?_ | refine blk_alloc ?_ _)); refine blk_put (cs := #[.int .i64 0, .int .i64 0, .bool false, .int .i64 0]) ?_ 1 _ rfl; (with_reducible repeat (first | refine blk_drewN ?_ _ | refine blk_drew ?_ | refine blk_alloc ?_ _)); refine blk_put (cs := #[.int .i64 0, .int .i64 0, .bool false, .int .i64 0]) ?_ 0 _ rfl; (with_reducible repeat (first | refine blk_drewN ?_ _ | refine blk_drew ?_ | refine blk_alloc ?_ _)); exact BK254.out) hb); replace HB := bs HB hb; (try clear hb); (try clear hb2); (try clear hk); (try clear hi))))
    (try simp only [Act.put, List.setIfInBounds_toArray, List.set_cons_zero, List.set_cons_succ])
    go_cut [] (fun wc => ∃ (kq : Nat) (x255003_25 : Int), Aside0 (spec_IvRem.j1 kq a0_0 a0_1 a1_0 a1_1 0 0 false x255003_25 = some (r1, r2, r3, r4)) ∧ Aside0 (kq ≤ kj2) ∧ Aside0 (wc.heap[gb249]? = some (.cells #[.int .i64 a0_0, .int .i64 a0_1] 25 (0, 0))) ∧ Aside0 (wc.heap[gb250]? = some (.cells #[.int .i64 a1_0, .int .i64 a1_1] 25 (0, 0))) ∧ Aside0 (wc.heap[gb251]? = some (.cells #[.int .i64 0, .int .i64 0, .bool false, .int .i64 0] 28 (0, 0))) ∧ Aside0 (wc.heap[gb254]? = some (.cells #[.int .i64 0, .int .i64 0, .bool false, .int .i64 x255003_25] 28 (0, 0))) ∧ Aside0 (Below w.heap.size w wc))
    case first =>
     have H := HC26.out
     clear HC26
     by_cases c36 : t255 = true
     ·subst c36
      have H1 : (spec_IvRem.j1 kj2 a0_0 a0_1 a1_0 a1_1 0 0 false 1) = some (r1, r2, r3, r4) := by rw [if_pos rfl] at H; exact H
      clear H
      have H := H1
      clear H1
      have H' := Aside0.mk H
      clear H
      have hnb37 := NB254_249.out
      have hnc37 := NB249_254.out
      have hnb38 := NB254_250.out
      have hnc38 := NB250_254.out
      have hnb39 := NB254_251.out
      have hnc39 := NB251_254.out
      have hcz40_0 : w35.cell? ⟨gb254, 0, none⟩ = some (.int .i64 0) := (blk_cell BK254.out 0).trans rfl
      have hcz40_1 : w35.cell? ⟨gb254, 1, none⟩ = some (.int .i64 0) := (blk_cell BK254.out 1).trans rfl
      have hcz40_2 : w35.cell? ⟨gb254, 2, none⟩ = some (.bool false) := (blk_cell BK254.out 2).trans rfl
      have hcz40_3 : w35.cell? ⟨gb254, 3, none⟩ = some (.int .i64 0) := (blk_cell BK254.out 3).trans rfl
      have hfz40_0 := blk_frozen BK254.out 0
      have hfz40_1 := blk_frozen BK254.out 1
      have hfz40_2 := blk_frozen BK254.out 2
      have hfz40_3 := blk_frozen BK254.out 3
      go_wp2
      repeat (go_quiet (fail); try go_wp2)
      go_meet
      case rel => exact ⟨_, (1), H', ⟨by have := HJ2.out; first | omega | exact Nat.le_refl _⟩, ⟨bx BK249⟩, ⟨bx BK250⟩, ⟨bx BK251⟩, ⟨by (with_reducible repeat (first | refine blk_drewN ?_ _ | refine blk_drew ?_ | refine blk_alloc ?_ _)); refine blk_put (cs := #[.int .i64 0, .int .i64 0, .bool false, .int .i64 0]) ?_ 3 _ rfl; (with_reducible repeat (first | refine blk_drewN ?_ _ | refine blk_drew ?_ | refine blk_alloc ?_ _)); exact BK254.out⟩, ⟨bw HB⟩⟩
     ·replace c36 := Bool.eq_false_iff.mpr c36
      subst c36
      have H1 : (spec_IvRem.j1 kj2 a0_0 a0_1 a1_0 a1_1 0 0 false 0) = some (r1, r2, r3, r4) := by rw [if_neg (show ¬ (false = true) by decide)] at H; exact H
      clear H
      have H := H1
      clear H1
      have H' := Aside0.mk H
      clear H
      go_wp2
      repeat (go_quiet (fail); try go_wp2)
      go_meet
      case rel => exact ⟨_, (0), H', ⟨by have := HJ2.out; first | omega | exact Nat.le_refl _⟩, ⟨bx BK249⟩, ⟨bx BK250⟩, ⟨bx BK251⟩, ⟨bx BK254⟩, ⟨bw HB⟩⟩
    case rest =>
     clear HC26
     try clear c1
     try clear c2
     try clear p2
     try clear c3
     try clear c8
     try clear c10
     try clear c11
     try clear c14
     try clear c17
     try clear c18
     try clear c21
     try clear c22
     try clear c23
     try clear c28
     try clear c29
     try clear c30
     try clear c32
     try clear c33
     try clear c36
     try clear c37
     try clear c38
     try clear c39
     try clear hcz12_0
     try clear hcz12_1
     try clear hcz15_0
     try clear hcz15_1
     try clear hcz19_0
     try clear hcz19_1
     try clear hcz24_0
     try clear hcz24_1
     try clear hcz24_2
     try clear hcz24_3
     try clear hcz31_0
     try clear hcz31_1
     try clear hcz31_2
     try clear hcz31_3
     try clear hcz34_0
     try clear hcz34_1
     try clear hcz40_0
     try clear hcz40_1
     try clear hcz40_2
     try clear hcz40_3
     try clear hfz12_0
     try clear hfz12_1
     try clear hfz15_0
     try clear hfz15_1
     try clear hfz19_0
     try clear hfz19_1
     try clear hfz24_0
     try clear hfz24_1
     try clear hfz24_2
     try clear hfz24_3
     try clear hfz31_0
     try clear hfz31_1
     try clear hfz31_2
     try clear hfz31_3
     try clear hfz34_0
     try clear hfz34_1
     try clear hfz40_0
     try clear hfz40_1
     try clear hfz40_2
     try clear hfz40_3
     try clear p2
     obtain ⟨kq, x255003_25, HA, HJ25, BK249, BK250, BK251, BK254, HB⟩ := hcut
     cases kq with
     | zero => exact absurd HA.out (by simp [spec_IvRem.j1])
     | succ kj25 =>
      have H := HA.out
      clear HA
      simp only [spec_IvRem.j1] at H
      replace H := Option.bind_eq_some_iff.mp H
      obtain ⟨t256, A410, H⟩ := H
      replace H : (if (t256.length : Int) = 0 then (some (0, 0, false, x255003_25)) else (if a0_0 = a0_1 then (spec_IvRem.j2 kj25 (a1_0 == a1_1) a0_0 a0_1 a1_0 a1_1 0 0 true x255003_25) else (spec_IvRem.j2 kj25 false a0_0 a0_1 a1_0 a1_1 0 0 true x255003_25))) = some (r1, r2, r3, r4) := H
      have A41 := Aside0.mk A410
      clear A410
      by_cases c42 : (t256.length : Int) = 0
      ·rw [if_pos c42] at H
       have c42b0 : ((t256.length : Int) == 0) = true := beq_iff_eq.mpr c42
       have c42b1 : ((t256.length : Int) != 0) = false := bne_eq_false_iff_eq.mpr c42
       clear c42
       simp only [Option.some.injEq, Prod.mk.injEq] at H
       obtain ⟨rfl, rfl, rfl, rfl⟩ := H
       have hnb43 := NB250_249.out
       have hnc43 := NB249_250.out
       have hnb44 := NB250_251.out
       have hnc44 := NB251_250.out
       have hnb45 := NB250_254.out
       have hnc45 := NB254_250.out
       have hcz46_0 : wc.cell? ⟨gb250, 0, none⟩ = some (.int .i64 a1_0) := (blk_cell BK250.out 0).trans rfl
       have hcz46_1 : wc.cell? ⟨gb250, 1, none⟩ = some (.int .i64 a1_1) := (blk_cell BK250.out 1).trans rfl
       have hfz46_0 := blk_frozen BK250.out 0
       have hfz46_1 := blk_frozen BK250.out 1
       have tok_ : True := trivial
       repeat ((first | clear tok_ | go_quiet (fail)); try go_wp2_with ((go_at_call 56; (with_reducible refine (spec_l2Parts.calls a1_0 a1_1 t256 _ A41.out).mono ?_); rintro e w47 ⟨v257, rfl, ho0, hb⟩; have HO258 := Aside0.mk (Kd.R_lower (Kd.R_newB (Kd.R_newB ho0 (bk BK249)) (bk BK250)) (below_size (bw HB))); replace BK249 := bb BK249 hb; replace BK250 := bb BK250 hb; replace BK251 := bb BK251 hb; replace BK254 := bb BK254 hb; replace HB := bs HB hb; (try clear hb); (try clear hb2); (try clear hk); (try clear hi); (try clear ho0); obtain ⟨Ao48, co48, eo48⟩ := Kd.R_slice HO258.out; subst eo48; have hnb49 := NB254_249.out; have hnc49 := NB249_254.out; have hnb50 := NB254_251.out; have hnc50 := NB251_254.out; have hcz51_0 : w47.cell? ⟨gb254, 0, none⟩ = some (.int .i64 0) := (blk_cell BK254.out 0).trans rfl; have hcz51_1 : w47.cell? ⟨gb254, 1, none⟩ = some (.int .i64 0) := (blk_cell BK254.out 1).trans rfl; have hcz51_2 : w47.cell? ⟨gb254, 2, none⟩ = some (.bool false) := (blk_cell BK254.out 2).trans rfl; have hcz51_3 : w47.cell? ⟨gb254, 3, none⟩ = some (.int .i64 x255003_25) := (blk_cell BK254.out 3).trans rfl; have hfz51_0 := blk_frozen BK254.out 0; have hfz51_1 := blk_frozen BK254.out 1; have hfz51_2 := blk_frozen BK254.out 2; have hfz51_3 := blk_frozen BK254.out 3; have hnb52 := NB251_249.out; have hnc52 := NB249_251.out; have hcz53_0 : w47.cell? ⟨gb251, 0, none⟩ = some (.int .i64 0) := (blk_cell BK251.out 0).trans rfl; have hcz53_1 : w47.cell? ⟨gb251, 1, none⟩ = some (.int .i64 0) := (blk_cell BK251.out 1).trans rfl; have hcz53_2 : w47.cell? ⟨gb251, 2, none⟩ = some (.bool false) := (blk_cell BK251.out 2).trans rfl; have hcz53_3 : w47.cell? ⟨gb251, 3, none⟩ = some (.int .i64 0) := (blk_cell BK251.out 3).trans rfl; have hfz53_0 := blk_frozen BK251.out 0; have hfz53_1 := blk_frozen BK251.out 1; have hfz53_2 := blk_frozen BK251.out 2; have hfz53_3 := blk_frozen BK251.out 3)))
       all_goals (refine bodyPost_ret (results_cell_row rfl _ _ gb251 28 #[.int .i64 0, .int .i64 0, .bool false, .int .i64 x255003_25] (0, 0) _ rfl (by (with_reducible repeat (first | refine blk_drewN ?_ _ | refine blk_drew ?_ | refine blk_alloc ?_ _)); refine blk_put (cs := #[.int .i64 0, .int .i64 0, .bool false, .int .i64 0]) ?_ 3 _ rfl; (with_reducible repeat (first | refine blk_drewN ?_ _ | refine blk_drew ?_ | refine blk_alloc ?_ _)); refine blk_put (cs := #[.int .i64 0, .int .i64 0, .bool false, .int .i64 0]) ?_ 2 _ rfl; (with_reducible repeat (first | refine blk_drewN ?_ _ | refine blk_drew ?_ | refine blk_alloc ?_ _)); refine blk_put (cs := #[.int .i64 0, .int .i64 0, .bool false, .int .i64 0]) ?_ 1 _ rfl; (with_reducible repeat (first | refine blk_drewN ?_ _ | refine blk_drew ?_ | refine blk_alloc ?_ _)); refine blk_put (cs := #[.int .i64 0, .int .i64 0, .bool false, .int .i64 0]) ?_ 0 _ rfl; (with_reducible repeat (first | refine blk_drewN ?_ _ | refine blk_drew ?_ | refine blk_alloc ?_ _)); exact BK251.out) Try.underlying28 rfl (by kernel_rfl)) rfl ?_; exact ⟨by first | rfl | (simp [errW_none, errW_some] <;> rfl) | (simp [*, errW_none, errW_some] <;> rfl), bw HB⟩)
      ·rw [if_neg c42] at H
       have c42b0 : ((t256.length : Int) == 0) = false := beq_eq_false_iff_ne.mpr c42
       have c42b1 : ((t256.length : Int) != 0) = true := bne_iff_ne.mpr c42
       have c42b2 : ¬ (t256 = []) := fun h_ => c42 (by rw [h_]; rfl)
       have HC54 := Aside0.mk H
       clear H
       have hnb55 := NB250_249.out
       have hnc55 := NB249_250.out
       have hnb56 := NB250_251.out
       have hnc56 := NB251_250.out
       have hnb57 := NB250_254.out
       have hnc57 := NB254_250.out
       have hcz58_0 : wc.cell? ⟨gb250, 0, none⟩ = some (.int .i64 a1_0) := (blk_cell BK250.out 0).trans rfl
       have hcz58_1 : wc.cell? ⟨gb250, 1, none⟩ = some (.int .i64 a1_1) := (blk_cell BK250.out 1).trans rfl
       have hfz58_0 := blk_frozen BK250.out 0
       have hfz58_1 := blk_frozen BK250.out 1
       have tok_ : True := trivial
       repeat ((first | clear tok_ | go_quiet (fail)); go_upto_region 9 with ((go_at_call 56; (with_reducible refine (spec_l2Parts.calls a1_0 a1_1 t256 _ A41.out).mono ?_); rintro e w59 ⟨v257, rfl, ho0, hb⟩; have HO258 := Aside0.mk (Kd.R_lower (Kd.R_newB (Kd.R_newB ho0 (bk BK249)) (bk BK250)) (below_size (bw HB))); replace BK249 := bb BK249 hb; replace BK250 := bb BK250 hb; replace BK251 := bb BK251 hb; replace BK254 := bb BK254 hb; replace HB := bs HB hb; (try clear hb); (try clear hb2); (try clear hk); (try clear hi); (try clear ho0); obtain ⟨Ao60, co60, eo60⟩ := Kd.R_slice HO258.out; subst eo60; have hnb61 := NB254_249.out; have hnc61 := NB249_254.out; have hnb62 := NB254_251.out; have hnc62 := NB251_254.out; have hcz63_0 : w59.cell? ⟨gb254, 0, none⟩ = some (.int .i64 0) := (blk_cell BK254.out 0).trans rfl; have hcz63_1 : w59.cell? ⟨gb254, 1, none⟩ = some (.int .i64 0) := (blk_cell BK254.out 1).trans rfl; have hcz63_2 : w59.cell? ⟨gb254, 2, none⟩ = some (.bool false) := (blk_cell BK254.out 2).trans rfl; have hcz63_3 : w59.cell? ⟨gb254, 3, none⟩ = some (.int .i64 x255003_25) := (blk_cell BK254.out 3).trans rfl; have hfz63_0 := blk_frozen BK254.out 0; have hfz63_1 := blk_frozen BK254.out 1; have hfz63_2 := blk_frozen BK254.out 2; have hfz63_3 := blk_frozen BK254.out 3)))
       (try simp only [Act.put, List.setIfInBounds_toArray, List.set_cons_zero, List.set_cons_succ])
       go_cut [38] (fun v38 wc => ∃ (kq : Nat) (x38_53 : Bool), v38 = .bool x38_53 ∧ Aside0 (spec_IvRem.j2 kq x38_53 a0_0 a0_1 a1_0 a1_1 0 0 true x255003_25 = some (r1, r2, r3, r4)) ∧ Aside0 (kq ≤ kj25) ∧ Aside0 (wc.heap[gb249]? = some (.cells #[.int .i64 a0_0, .int .i64 a0_1] 25 (0, 0))) ∧ Aside0 (wc.heap[gb250]? = some (.cells #[.int .i64 a1_0, .int .i64 a1_1] 25 (0, 0))) ∧ Aside0 (wc.heap[gb251]? = some (.cells #[.int .i64 0, .int .i64 0, .bool false, .int .i64 0] 28 (0, 0))) ∧ Aside0 (wc.heap[gb254]? = some (.cells #[.int .i64 0, .int .i64 0, .bool true, .int .i64 x255003_25] 28 (0, 0))) ∧ Aside0 (Below w.heap.size w wc))
       case first =>
        have H := HC54.out
        clear HC54
        by_cases c64 : a0_0 = a0_1
        ·rw [if_pos c64] at H
         have c64b0 : (a0_0 == a0_1) = true := beq_iff_eq.mpr c64
         have c64b1 : (a0_0 != a0_1) = false := bne_eq_false_iff_eq.mpr c64
         clear c64
         (first | rw [c64b0] | (simp only [i64_w, i32_w]; rw [c64b0]) | skip)
         have H' := Aside0.mk H
         clear H
         have hnb65 := NB249_250.out
         have hnc65 := NB250_249.out
         have hnb66 := NB249_251.out
         have hnc66 := NB251_249.out
         have hnb67 := NB249_254.out
         have hnc67 := NB254_249.out
         have hcz68_0 : w59.cell? ⟨gb249, 0, none⟩ = some (.int .i64 a0_0) := (blk_cell BK249.out 0).trans rfl
         have hcz68_1 : w59.cell? ⟨gb249, 1, none⟩ = some (.int .i64 a0_1) := (blk_cell BK249.out 1).trans rfl
         have hfz68_0 := blk_frozen BK249.out 0
         have hfz68_1 := blk_frozen BK249.out 1
         have hnb69 := NB250_251.out
         have hnc69 := NB251_250.out
         have hnb70 := NB250_254.out
         have hnc70 := NB254_250.out
         have hcz71_0 : w59.cell? ⟨gb250, 0, none⟩ = some (.int .i64 a1_0) := (blk_cell BK250.out 0).trans rfl
         have hcz71_1 : w59.cell? ⟨gb250, 1, none⟩ = some (.int .i64 a1_1) := (blk_cell BK250.out 1).trans rfl
         have hfz71_0 := blk_frozen BK250.out 0
         have hfz71_1 := blk_frozen BK250.out 1
         go_wp2
         repeat (go_quiet (fail); try go_wp2)
         go_meet
         case rel => exact ⟨_, ((a1_0 == a1_1)), (by first | rfl | (simp; done) | (simp [*]; done)), H', ⟨by have := HJ2.out; have := HJ25.out; first | omega | exact Nat.le_refl _⟩, ⟨bx BK249⟩, ⟨bx BK250⟩, ⟨bx BK251⟩, ⟨by (with_reducible repeat (first | refine blk_drewN ?_ _ | refine blk_drew ?_ | refine blk_alloc ?_ _)); refine blk_put (cs := #[.int .i64 0, .int .i64 0, .bool false, .int .i64 x255003_25]) ?_ 2 _ rfl; (with_reducible repeat (first | refine blk_drewN ?_ _ | refine blk_drew ?_ | refine blk_alloc ?_ _)); exact BK254.out⟩, ⟨bw HB⟩⟩
        ·rw [if_neg c64] at H
         have c64b0 : (a0_0 == a0_1) = false := beq_eq_false_iff_ne.mpr c64
         have c64b1 : (a0_0 != a0_1) = true := bne_iff_ne.mpr c64
         (first | rw [c64b0] | (simp only [i64_w, i32_w]; rw [c64b0]) | skip)
         have H' := Aside0.mk H
         clear H
         have hnb72 := NB249_250.out
         have hnc72 := NB250_249.out
         have hnb73 := NB249_251.out
         have hnc73 := NB251_249.out
         have hnb74 := NB249_254.out
         have hnc74 := NB254_249.out
         have hcz75_0 : w59.cell? ⟨gb249, 0, none⟩ = some (.int .i64 a0_0) := (blk_cell BK249.out 0).trans rfl
         have hcz75_1 : w59.cell? ⟨gb249, 1, none⟩ = some (.int .i64 a0_1) := (blk_cell BK249.out 1).trans rfl
         have hfz75_0 := blk_frozen BK249.out 0
         have hfz75_1 := blk_frozen BK249.out 1
         go_wp2
         repeat (go_quiet (fail); try go_wp2)
         go_meet
         case rel => exact ⟨_, (false), (by first | rfl | (simp; done) | (simp [*]; done)), H', ⟨by have := HJ2.out; have := HJ25.out; first | omega | exact Nat.le_refl _⟩, ⟨bx BK249⟩, ⟨bx BK250⟩, ⟨bx BK251⟩, ⟨by (with_reducible repeat (first | refine blk_drewN ?_ _ | refine blk_drew ?_ | refine blk_alloc ?_ _)); refine blk_put (cs := #[.int .i64 0, .int .i64 0, .bool false, .int .i64 x255003_25]) ?_ 2 _ rfl; (with_reducible repeat (first | refine blk_drewN ?_ _ | refine blk_drew ?_ | refine blk_alloc ?_ _)); exact BK254.out⟩, ⟨bw HB⟩⟩
       case rest =>
        clear HC54
        try clear c1
        try clear c2
        try clear p2
        try clear c3
        try clear c4
        try clear c5
        try clear c6
        try clear c7
        try clear c8
        try clear c10
        try clear c11
        try clear c14
        try clear c17
        try clear c18
        try clear c21
        try clear c22
        try clear c23
        try clear c28
        try clear c29
        try clear c30
        try clear c32
        try clear c33
        try clear c36
        try clear c37
        try clear c38
        try clear c39
        try clear c42
        try clear c42b0
        try clear c42b1
        try clear c42b2
        try clear c43
        try clear c44
        try clear c45
        try clear c49
        try clear c50
        try clear c52
        try clear c55
        try clear c56
        try clear c57
        try clear c61
        try clear c62
        try clear c64
        try clear c64b0
        try clear c64b1
        try clear c65
        try clear c66
        try clear c67
        try clear c69
        try clear c70
        try clear c72
        try clear c73
        try clear c74
        try clear hcz12_0
        try clear hcz12_1
        try clear hcz15_0
        try clear hcz15_1
        try clear hcz19_0
        try clear hcz19_1
        try clear hcz24_0
        try clear hcz24_1
        try clear hcz24_2
        try clear hcz24_3
        try clear hcz31_0
        try clear hcz31_1
        try clear hcz31_2
        try clear hcz31_3
        try clear hcz34_0
        try clear hcz34_1
        try clear hcz40_0
        try clear hcz40_1
        try clear hcz40_2
        try clear hcz40_3
        try clear hcz46_0
        try clear hcz46_1
        try clear hcz51_0
        try clear hcz51_1
        try clear hcz51_2
        try clear hcz51_3
        try clear hcz53_0
        try clear hcz53_1
        try clear hcz53_2
        try clear hcz53_3
        try clear hcz58_0
        try clear hcz58_1
        try clear hcz63_0
        try clear hcz63_1
        try clear hcz63_2
        try clear hcz63_3
        try clear hcz68_0
        try clear hcz68_1
        try clear hcz71_0
        try clear hcz71_1
        try clear hcz75_0
        try clear hcz75_1
        try clear hfz12_0
        try clear hfz12_1
        try clear hfz15_0
        try clear hfz15_1
        try clear hfz19_0
        try clear hfz19_1
        try clear hfz24_0
        try clear hfz24_1
        try clear hfz24_2
        try clear hfz24_3
        try clear hfz31_0
        try clear hfz31_1
        try clear hfz31_2
        try clear hfz31_3
        try clear hfz34_0
        try clear hfz34_1
        try clear hfz40_0
        try clear hfz40_1
        try clear hfz40_2
        try clear hfz40_3
        try clear hfz46_0
        try clear hfz46_1
        try clear hfz51_0
        try clear hfz51_1
        try clear hfz51_2
        try clear hfz51_3
        try clear hfz53_0
        try clear hfz53_1
        try clear hfz53_2
        try clear hfz53_3
        try clear hfz58_0
        try clear hfz58_1
        try clear hfz63_0
        try clear hfz63_1
        try clear hfz63_2
        try clear hfz63_3
        try clear hfz68_0
        try clear hfz68_1
        try clear hfz71_0
        try clear hfz71_1
        try clear hfz75_0
        try clear hfz75_1
        try clear p2
        obtain ⟨kq, x38_53, rfl, HA, HJ53, BK249, BK250, BK251, BK254, HB⟩ := hcut
        cases kq with
        | zero => exact absurd HA.out (by simp [spec_IvRem.j2])
        | succ kj53 =>
         have H := HA.out
         clear HA
         simp only [spec_IvRem.j2] at H
         by_cases c76 : x38_53 = true
         ·subst c76
          have H1 : ((spec_NumRem.f a0_0 a1_0).bind fun t259 => (some (t259, t259, true, x255003_25))) = some (r1, r2, r3, r4) := by rw [if_pos rfl] at H; exact H
          clear H
          have H := H1
          clear H1
          replace H := Option.bind_eq_some_iff.mp H
          obtain ⟨t259, A770, H⟩ := H
          replace H : (some (t259, t259, true, x255003_25)) = some (r1, r2, r3, r4) := H
          have A77 := Aside0.mk A770
          clear A770
          simp only [Option.some.injEq, Prod.mk.injEq] at H
          obtain ⟨rfl, rfl, rfl, rfl⟩ := H
          have hnb78 := NB249_250.out
          have hnc78 := NB250_249.out
          have hnb79 := NB249_251.out
          have hnc79 := NB251_249.out
          have hnb80 := NB249_254.out
          have hnc80 := NB254_249.out
          have hcz81_0 : wc.cell? ⟨gb249, 0, none⟩ = some (.int .i64 a0_0) := (blk_cell BK249.out 0).trans rfl
          have hcz81_1 : wc.cell? ⟨gb249, 1, none⟩ = some (.int .i64 a0_1) := (blk_cell BK249.out 1).trans rfl
          have hfz81_0 := blk_frozen BK249.out 0
          have hfz81_1 := blk_frozen BK249.out 1
          have hnb82 := NB250_251.out
          have hnc82 := NB251_250.out
          have hnb83 := NB250_254.out
          have hnc83 := NB254_250.out
          have hcz84_0 : wc.cell? ⟨gb250, 0, none⟩ = some (.int .i64 a1_0) := (blk_cell BK250.out 0).trans rfl
          have hcz84_1 : wc.cell? ⟨gb250, 1, none⟩ = some (.int .i64 a1_1) := (blk_cell BK250.out 1).trans rfl
          have hfz84_0 := blk_frozen BK250.out 0
          have hfz84_1 := blk_frozen BK250.out 1
          have tok_ : True := trivial
          repeat ((first | clear tok_ | go_quiet ((go_at_call 60; (with_reducible refine (spec_NumRem.calls a0_0 a1_0 t259 _ A77.out).mono ?_); rintro e w' ⟨rfl, ⟨nd, rfl⟩⟩; (try exact qd); have hnb85 := NB254_251.out; have hnc85 := NB251_254.out; have hcz86_0 : wc.cell? ⟨gb254, 0, none⟩ = some (.int .i64 0) := (blk_cell BK254.out 0).trans rfl; have hcz86_1 : wc.cell? ⟨gb254, 1, none⟩ = some (.int .i64 0) := (blk_cell BK254.out 1).trans rfl; have hcz86_2 : wc.cell? ⟨gb254, 2, none⟩ = some (.bool true) := (blk_cell BK254.out 2).trans rfl; have hcz86_3 : wc.cell? ⟨gb254, 3, none⟩ = some (.int .i64 x255003_25) := (blk_cell BK254.out 3).trans rfl; have hfz86_0 := blk_frozen BK254.out 0; have hfz86_1 := blk_frozen BK254.out 1; have hfz86_2 := blk_frozen BK254.out 2; have hfz86_3 := blk_frozen BK254.out 3; have hcz87_0 : wc.cell? ⟨gb251, 0, none⟩ = some (.int .i64 0) := (blk_cell BK251.out 0).trans rfl; have hcz87_1 : wc.cell? ⟨gb251, 1, none⟩ = some (.int .i64 0) := (blk_cell BK251.out 1).trans rfl; have hcz87_2 : wc.cell? ⟨gb251, 2, none⟩ = some (.bool false) := (blk_cell BK251.out 2).trans rfl; have hcz87_3 : wc.cell? ⟨gb251, 3, none⟩ = some (.int .i64 0) := (blk_cell BK251.out 3).trans rfl; have hfz87_0 := blk_frozen BK251.out 0; have hfz87_1 := blk_frozen BK251.out 1; have hfz87_2 := blk_frozen BK251.out 2; have hfz87_3 := blk_frozen BK251.out 3))); try go_wp2_with ((go_at_call 60; (with_reducible refine (spec_NumRem.calls a0_0 a1_0 t259 _ A77.out).mono ?_); rintro e w' ⟨rfl, ⟨nd, rfl⟩⟩; (try exact qd); have hnb85 := NB254_251.out; have hnc85 := NB251_254.out; have hcz86_0 : wc.cell? ⟨gb254, 0, none⟩ = some (.int .i64 0) := (blk_cell BK254.out 0).trans rfl; have hcz86_1 : wc.cell? ⟨gb254, 1, none⟩ = some (.int .i64 0) := (blk_cell BK254.out 1).trans rfl; have hcz86_2 : wc.cell? ⟨gb254, 2, none⟩ = some (.bool true) := (blk_cell BK254.out 2).trans rfl; have hcz86_3 : wc.cell? ⟨gb254, 3, none⟩ = some (.int .i64 x255003_25) := (blk_cell BK254.out 3).trans rfl; have hfz86_0 := blk_frozen BK254.out 0; have hfz86_1 := blk_frozen BK254.out 1; have hfz86_2 := blk_frozen BK254.out 2; have hfz86_3 := blk_frozen BK254.out 3; have hcz87_0 : wc.cell? ⟨gb251, 0, none⟩ = some (.int .i64 0) := (blk_cell BK251.out 0).trans rfl; have hcz87_1 : wc.cell? ⟨gb251, 1, none⟩ = some (.int .i64 0) := (blk_cell BK251.out 1).trans rfl; have hcz87_2 : wc.cell? ⟨gb251, 2, none⟩ = some (.bool false) := (blk_cell BK251.out 2).trans rfl; have hcz87_3 : wc.cell? ⟨gb251, 3, none⟩ = some (.int .i64 0) := (blk_cell BK251.out 3).trans rfl; have hfz87_0 := blk_frozen BK251.out 0; have hfz87_1 := blk_frozen BK251.out 1; have hfz87_2 := blk_frozen BK251.out 2; have hfz87_3 := blk_frozen BK251.out 3)))
          all_goals (refine bodyPost_ret (results_cell_row rfl _ _ gb251 28 #[.int .i64 t259, .int .i64 t259, .bool true, .int .i64 x255003_25] (0, 0) _ rfl (by (with_reducible repeat (first | refine blk_drewN ?_ _ | refine blk_drew ?_ | refine blk_alloc ?_ _)); refine blk_put (cs := #[.int .i64 t259, .int .i64 t259, .bool true, .int .i64 0]) ?_ 3 _ rfl; (with_reducible repeat (first | refine blk_drewN ?_ _ | refine blk_drew ?_ | refine blk_alloc ?_ _)); refine blk_put (cs := #[.int .i64 t259, .int .i64 t259, .bool false, .int .i64 0]) ?_ 2 _ rfl; (with_reducible repeat (first | refine blk_drewN ?_ _ | refine blk_drew ?_ | refine blk_alloc ?_ _)); refine blk_put (cs := #[.int .i64 t259, .int .i64 0, .bool false, .int .i64 0]) ?_ 1 _ rfl; (with_reducible repeat (first | refine blk_drewN ?_ _ | refine blk_drew ?_ | refine blk_alloc ?_ _)); refine blk_put (cs := #[.int .i64 0, .int .i64 0, .bool false, .int .i64 0]) ?_ 0 _ rfl; (with_reducible repeat (first | refine blk_drewN ?_ _ | refine blk_drew ?_ | refine blk_alloc ?_ _)); refine blk_far ?_ NB251_254.out _; (with_reducible repeat (first | refine blk_drewN ?_ _ | refine blk_drew ?_ | refine blk_alloc ?_ _)); refine blk_far ?_ NB251_254.out _; (with_reducible repeat (first | refine blk_drewN ?_ _ | refine blk_drew ?_ | refine blk_alloc ?_ _)); exact BK251.out) Try.underlying28 rfl (by kernel_rfl)) rfl ?_; exact ⟨by first | rfl | (simp [errW_none, errW_some] <;> rfl) | (simp [*, errW_none, errW_some] <;> rfl), bw HB⟩)
         ·replace c76 := Bool.eq_false_iff.mpr c76
          subst c76
          have H1 : ((spec_l1Abs.f a1_0).bind fun t260 => ((spec_l1Abs.f a1_1).bind fun t261 => (if a0_0 < 0 then (if a0_1 > 0 then (some (mx (wrap64 (-(wrap64 (IntKind.u64.wrap ((mx t260 t261) - 1))))) a0_0, mn (wrap64 (IntKind.u64.wrap ((mx t260 t261) - 1))) a0_1, true, x255003_25)) else (some (mx (wrap64 (-(wrap64 (IntKind.u64.wrap ((mx t260 t261) - 1))))) a0_0, 0, true, x255003_25))) else (if a0_1 > 0 then (some (0, mn (wrap64 (IntKind.u64.wrap ((mx t260 t261) - 1))) a0_1, true, x255003_25)) else (some (0, 0, true, x255003_25)))))) = some (r1, r2, r3, r4) := by rw [if_neg (show ¬ (false = true) by decide)] at H; exact H
          clear H
          have H := H1
          clear H1
          replace H := Option.bind_eq_some_iff.mp H
          obtain ⟨t260, A880, H⟩ := H
          replace H : ((spec_l1Abs.f a1_1).bind fun t261 => (if a0_0 < 0 then (if a0_1 > 0 then (some (mx (wrap64 (-(wrap64 (IntKind.u64.wrap ((mx t260 t261) - 1))))) a0_0, mn (wrap64 (IntKind.u64.wrap ((mx t260 t261) - 1))) a0_1, true, x255003_25)) else (some (mx (wrap64 (-(wrap64 (IntKind.u64.wrap ((mx t260 t261) - 1))))) a0_0, 0, true, x255003_25))) else (if a0_1 > 0 then (some (0, mn (wrap64 (IntKind.u64.wrap ((mx t260 t261) - 1))) a0_1, true, x255003_25)) else (some (0, 0, true, x255003_25))))) = some (r1, r2, r3, r4) := H
          have A88 := Aside0.mk A880
          clear A880
          replace H := Option.bind_eq_some_iff.mp H
          obtain ⟨t261, A890, H⟩ := H
          replace H : (if a0_0 < 0 then (if a0_1 > 0 then (some (mx (wrap64 (-(wrap64 (IntKind.u64.wrap ((mx t260 t261) - 1))))) a0_0, mn (wrap64 (IntKind.u64.wrap ((mx t260 t261) - 1))) a0_1, true, x255003_25)) else (some (mx (wrap64 (-(wrap64 (IntKind.u64.wrap ((mx t260 t261) - 1))))) a0_0, 0, true, x255003_25))) else (if a0_1 > 0 then (some (0, mn (wrap64 (IntKind.u64.wrap ((mx t260 t261) - 1))) a0_1, true, x255003_25)) else (some (0, 0, true, x255003_25)))) = some (r1, r2, r3, r4) := H
          have A89 := Aside0.mk A890
          clear A890
          obtain ⟨ji90, hji90⟩ : ∃ j_ : Int, (mx t260 t261) = j_ := ⟨_, rfl⟩
          replace H : (if a0_0 < 0 then (if a0_1 > 0 then (some (mx (wrap64 (-(wrap64 (IntKind.u64.wrap ((ji90) - 1))))) a0_0, mn (wrap64 (IntKind.u64.wrap ((ji90) - 1))) a0_1, true, x255003_25)) else (some (mx (wrap64 (-(wrap64 (IntKind.u64.wrap ((ji90) - 1))))) a0_0, 0, true, x255003_25))) else (if a0_1 > 0 then (some (0, mn (wrap64 (IntKind.u64.wrap ((ji90) - 1))) a0_1, true, x255003_25)) else (some (0, 0, true, x255003_25)))) = some (r1, r2, r3, r4) := by first | (rw [hji90] at H; exact H) | (simp only [hji90] at H ⊢; exact H)
          (try rw [hji90] at A88)
          (try rw [hji90] at A89)
          have hji90_ : (if t260 < t261 then t261 else t260) = ji90 := hji90
          by_cases c91 : a0_0 < 0
          ·rw [if_pos c91] at H
           have c91b0 : decide (a0_0 < 0) = true := decide_eq_true c91
           clear c91
           obtain ⟨ji92, hji92⟩ : ∃ j_ : Int, (mx (wrap64 (-(wrap64 (IntKind.u64.wrap ((ji90) - 1))))) a0_0) = j_ := ⟨_, rfl⟩
           replace H : (if a0_1 > 0 then (some (ji92, mn (wrap64 (IntKind.u64.wrap ((ji90) - 1))) a0_1, true, x255003_25)) else (some (ji92, 0, true, x255003_25))) = some (r1, r2, r3, r4) := by first | (rw [hji92] at H; exact H) | (simp only [hji92] at H ⊢; exact H)
           (try rw [hji92] at A88)
           (try rw [hji92] at A89)
           have hji92_ : (if (wrap64 (-(wrap64 (IntKind.u64.wrap ((ji90) - 1))))) < a0_0 then a0_0 else (wrap64 (-(wrap64 (IntKind.u64.wrap ((ji90) - 1)))))) = ji92 := hji92
           by_cases c93 : a0_1 > 0
           ·rw [if_pos c93] at H
            have c93b0 : decide (0 < a0_1) = true := decide_eq_true c93
            clear c93
            obtain ⟨ji94, hji94⟩ : ∃ j_ : Int, (mn (wrap64 (IntKind.u64.wrap ((ji90) - 1))) a0_1) = j_ := ⟨_, rfl⟩
            replace H : (some (ji92, ji94, true, x255003_25)) = some (r1, r2, r3, r4) := by first | (rw [hji94] at H; exact H) | (simp only [hji94] at H ⊢; exact H)
            (try rw [hji94] at A88)
            (try rw [hji94] at A89)
            have hji94_ : (if a0_1 < (wrap64 (IntKind.u64.wrap ((ji90) - 1))) then a0_1 else (wrap64 (IntKind.u64.wrap ((ji90) - 1)))) = ji94 := hji94
            simp only [Option.some.injEq, Prod.mk.injEq] at H
            obtain ⟨rfl, rfl, rfl, rfl⟩ := H
            have hnb95 := NB250_249.out
            have hnc95 := NB249_250.out
            have hnb96 := NB250_251.out
            have hnc96 := NB251_250.out
            have hnb97 := NB250_254.out
            have hnc97 := NB254_250.out
            have hcz98_0 : wc.cell? ⟨gb250, 0, none⟩ = some (.int .i64 a1_0) := (blk_cell BK250.out 0).trans rfl
            have hcz98_1 : wc.cell? ⟨gb250, 1, none⟩ = some (.int .i64 a1_1) := (blk_cell BK250.out 1).trans rfl
            have hfz98_0 := blk_frozen BK250.out 0
            have hfz98_1 := blk_frozen BK250.out 1
            have tok_ : True := trivial
            repeat ((first | clear tok_ | go_quiet (first | (go_at_call 61; (with_reducible refine (spec_l1Abs.calls a1_0 t260 _ A88.out).mono ?_); rintro e w' ⟨rfl, ⟨nd, rfl⟩⟩; (try exact qd)) | (go_at_call 61; (with_reducible refine (spec_l1Abs.calls a1_1 t261 _ A89.out).mono ?_); rintro e w' ⟨rfl, ⟨nd, rfl⟩⟩; (try exact qd); have hnb99 := NB249_251.out; have hnc99 := NB251_249.out; have hnb100 := NB249_254.out; have hnc100 := NB254_249.out; have hcz101_0 : wc.cell? ⟨gb249, 0, none⟩ = some (.int .i64 a0_0) := (blk_cell BK249.out 0).trans rfl; have hcz101_1 : wc.cell? ⟨gb249, 1, none⟩ = some (.int .i64 a0_1) := (blk_cell BK249.out 1).trans rfl; have hfz101_0 := blk_frozen BK249.out 0; have hfz101_1 := blk_frozen BK249.out 1; have hnb102 := NB254_251.out; have hnc102 := NB251_254.out; have hcz103_0 : wc.cell? ⟨gb254, 0, none⟩ = some (.int .i64 0) := (blk_cell BK254.out 0).trans rfl; have hcz103_1 : wc.cell? ⟨gb254, 1, none⟩ = some (.int .i64 0) := (blk_cell BK254.out 1).trans rfl; have hcz103_2 : wc.cell? ⟨gb254, 2, none⟩ = some (.bool true) := (blk_cell BK254.out 2).trans rfl; have hcz103_3 : wc.cell? ⟨gb254, 3, none⟩ = some (.int .i64 x255003_25) := (blk_cell BK254.out 3).trans rfl; have hfz103_0 := blk_frozen BK254.out 0; have hfz103_1 := blk_frozen BK254.out 1; have hfz103_2 := blk_frozen BK254.out 2; have hfz103_3 := blk_frozen BK254.out 3; have hcz104_0 : wc.cell? ⟨gb251, 0, none⟩ = some (.int .i64 0) := (blk_cell BK251.out 0).trans rfl; have hcz104_1 : wc.cell? ⟨gb251, 1, none⟩ = some (.int .i64 0) := (blk_cell BK251.out 1).trans rfl; have hcz104_2 : wc.cell? ⟨gb251, 2, none⟩ = some (.bool false) := (blk_cell BK251.out 2).trans rfl; have hcz104_3 : wc.cell? ⟨gb251, 3, none⟩ = some (.int .i64 0) := (blk_cell BK251.out 3).trans rfl; have hfz104_0 := blk_frozen BK251.out 0; have hfz104_1 := blk_frozen BK251.out 1; have hfz104_2 := blk_frozen BK251.out 2; have hfz104_3 := blk_frozen BK251.out 3))); try go_wp2_with (first | (go_at_call 61; (with_reducible refine (spec_l1Abs.calls a1_0 t260 _ A88.out).mono ?_); rintro e w' ⟨rfl, ⟨nd, rfl⟩⟩; (try exact qd)) | (go_at_call 61; (with_reducible refine (spec_l1Abs.calls a1_1 t261 _ A89.out).mono ?_); rintro e w' ⟨rfl, ⟨nd, rfl⟩⟩; (try exact qd); have hnb99 := NB249_251.out; have hnc99 := NB251_249.out; have hnb100 := NB249_254.out; have hnc100 := NB254_249.out; have hcz101_0 : wc.cell? ⟨gb249, 0, none⟩ = some (.int .i64 a0_0) := (blk_cell BK249.out 0).trans rfl; have hcz101_1 : wc.cell? ⟨gb249, 1, none⟩ = some (.int .i64 a0_1) := (blk_cell BK249.out 1).trans rfl; have hfz101_0 := blk_frozen BK249.out 0; have hfz101_1 := blk_frozen BK249.out 1; have hnb102 := NB254_251.out; have hnc102 := NB251_254.out; have hcz103_0 : wc.cell? ⟨gb254, 0, none⟩ = some (.int .i64 0) := (blk_cell BK254.out 0).trans rfl; have hcz103_1 : wc.cell? ⟨gb254, 1, none⟩ = some (.int .i64 0) := (blk_cell BK254.out 1).trans rfl; have hcz103_2 : wc.cell? ⟨gb254, 2, none⟩ = some (.bool true) := (blk_cell BK254.out 2).trans rfl; have hcz103_3 : wc.cell? ⟨gb254, 3, none⟩ = some (.int .i64 x255003_25) := (blk_cell BK254.out 3).trans rfl; have hfz103_0 := blk_frozen BK254.out 0; have hfz103_1 := blk_frozen BK254.out 1; have hfz103_2 := blk_frozen BK254.out 2; have hfz103_3 := blk_frozen BK254.out 3; have hcz104_0 : wc.cell? ⟨gb251, 0, none⟩ = some (.int .i64 0) := (blk_cell BK251.out 0).trans rfl; have hcz104_1 : wc.cell? ⟨gb251, 1, none⟩ = some (.int .i64 0) := (blk_cell BK251.out 1).trans rfl; have hcz104_2 : wc.cell? ⟨gb251, 2, none⟩ = some (.bool false) := (blk_cell BK251.out 2).trans rfl; have hcz104_3 : wc.cell? ⟨gb251, 3, none⟩ = some (.int .i64 0) := (blk_cell BK251.out 3).trans rfl; have hfz104_0 := blk_frozen BK251.out 0; have hfz104_1 := blk_frozen BK251.out 1; have hfz104_2 := blk_frozen BK251.out 2; have hfz104_3 := blk_frozen BK251.out 3)))
            all_goals (refine bodyPost_ret (results_cell_row rfl _ _ gb251 28 #[.int .i64 ji92, .int .i64 ji94, .bool true, .int .i64 x255003_25] (0, 0) _ rfl (by (with_reducible repeat (first | refine blk_drewN ?_ _ | refine blk_drew ?_ | refine blk_alloc ?_ _)); refine blk_put (cs := #[.int .i64 ji92, .int .i64 ji94, .bool true, .int .i64 0]) ?_ 3 _ rfl; (with_reducible repeat (first | refine blk_drewN ?_ _ | refine blk_drew ?_ | refine blk_alloc ?_ _)); refine blk_put (cs := #[.int .i64 ji92, .int .i64 ji94, .bool false, .int .i64 0]) ?_ 2 _ rfl; (with_reducible repeat (first | refine blk_drewN ?_ _ | refine blk_drew ?_ | refine blk_alloc ?_ _)); refine blk_put (cs := #[.int .i64 ji92, .int .i64 0, .bool false, .int .i64 0]) ?_ 1 _ rfl; (with_reducible repeat (first | refine blk_drewN ?_ _ | refine blk_drew ?_ | refine blk_alloc ?_ _)); refine blk_put (cs := #[.int .i64 0, .int .i64 0, .bool false, .int .i64 0]) ?_ 0 _ rfl; (with_reducible repeat (first | refine blk_drewN ?_ _ | refine blk_drew ?_ | refine blk_alloc ?_ _)); refine blk_far ?_ NB251_254.out _; (with_reducible repeat (first | refine blk_drewN ?_ _ | refine blk_drew ?_ | refine blk_alloc ?_ _)); refine blk_far ?_ NB251_254.out _; (with_reducible repeat (first | refine blk_drewN ?_ _ | refine blk_drew ?_ | refine blk_alloc ?_ _)); exact BK251.out) Try.underlying28 rfl (by kernel_rfl)) rfl ?_; exact ⟨by first | rfl | (simp [errW_none, errW_some] <;> rfl) | (simp only [← hji90, ← hji92, ← hji94]; first | rfl | (simp [errW_none, errW_some] <;> rfl)) | (simp [*, errW_none, errW_some] <;> rfl), bw HB⟩)
           ·rw [if_neg c93] at H
            have c93b0 : decide (0 < a0_1) = false := decide_eq_false c93
            clear c93
            simp only [Option.some.injEq, Prod.mk.injEq] at H
            obtain ⟨rfl, rfl, rfl, rfl⟩ := H
            have hnb105 := NB250_249.out
            have hnc105 := NB249_250.out
            have hnb106 := NB250_251.out
            have hnc106 := NB251_250.out
            have hnb107 := NB250_254.out
            have hnc107 := NB254_250.out
            have hcz108_0 : wc.cell? ⟨gb250, 0, none⟩ = some (.int .i64 a1_0) := (blk_cell BK250.out 0).trans rfl
            have hcz108_1 : wc.cell? ⟨gb250, 1, none⟩ = some (.int .i64 a1_1) := (blk_cell BK250.out 1).trans rfl
            have hfz108_0 := blk_frozen BK250.out 0
            have hfz108_1 := blk_frozen BK250.out 1
            have tok_ : True := trivial
            repeat ((first | clear tok_ | go_quiet (first | (go_at_call 61; (with_reducible refine (spec_l1Abs.calls a1_0 t260 _ A88.out).mono ?_); rintro e w' ⟨rfl, ⟨nd, rfl⟩⟩; (try exact qd)) | (go_at_call 61; (with_reducible refine (spec_l1Abs.calls a1_1 t261 _ A89.out).mono ?_); rintro e w' ⟨rfl, ⟨nd, rfl⟩⟩; (try exact qd); have hnb109 := NB249_251.out; have hnc109 := NB251_249.out; have hnb110 := NB249_254.out; have hnc110 := NB254_249.out; have hcz111_0 : wc.cell? ⟨gb249, 0, none⟩ = some (.int .i64 a0_0) := (blk_cell BK249.out 0).trans rfl; have hcz111_1 : wc.cell? ⟨gb249, 1, none⟩ = some (.int .i64 a0_1) := (blk_cell BK249.out 1).trans rfl; have hfz111_0 := blk_frozen BK249.out 0; have hfz111_1 := blk_frozen BK249.out 1; have hnb112 := NB254_251.out; have hnc112 := NB251_254.out; have hcz113_0 : wc.cell? ⟨gb254, 0, none⟩ = some (.int .i64 0) := (blk_cell BK254.out 0).trans rfl; have hcz113_1 : wc.cell? ⟨gb254, 1, none⟩ = some (.int .i64 0) := (blk_cell BK254.out 1).trans rfl; have hcz113_2 : wc.cell? ⟨gb254, 2, none⟩ = some (.bool true) := (blk_cell BK254.out 2).trans rfl; have hcz113_3 : wc.cell? ⟨gb254, 3, none⟩ = some (.int .i64 x255003_25) := (blk_cell BK254.out 3).trans rfl; have hfz113_0 := blk_frozen BK254.out 0; have hfz113_1 := blk_frozen BK254.out 1; have hfz113_2 := blk_frozen BK254.out 2; have hfz113_3 := blk_frozen BK254.out 3; have hcz114_0 : wc.cell? ⟨gb251, 0, none⟩ = some (.int .i64 0) := (blk_cell BK251.out 0).trans rfl; have hcz114_1 : wc.cell? ⟨gb251, 1, none⟩ = some (.int .i64 0) := (blk_cell BK251.out 1).trans rfl; have hcz114_2 : wc.cell? ⟨gb251, 2, none⟩ = some (.bool false) := (blk_cell BK251.out 2).trans rfl; have hcz114_3 : wc.cell? ⟨gb251, 3, none⟩ = some (.int .i64 0) := (blk_cell BK251.out 3).trans rfl; have hfz114_0 := blk_frozen BK251.out 0; have hfz114_1 := blk_frozen BK251.out 1; have hfz114_2 := blk_frozen BK251.out 2; have hfz114_3 := blk_frozen BK251.out 3))); try go_wp2_with (first | (go_at_call 61; (with_reducible refine (spec_l1Abs.calls a1_0 t260 _ A88.out).mono ?_); rintro e w' ⟨rfl, ⟨nd, rfl⟩⟩; (try exact qd)) | (go_at_call 61; (with_reducible refine (spec_l1Abs.calls a1_1 t261 _ A89.out).mono ?_); rintro e w' ⟨rfl, ⟨nd, rfl⟩⟩; (try exact qd); have hnb109 := NB249_251.out; have hnc109 := NB251_249.out; have hnb110 := NB249_254.out; have hnc110 := NB254_249.out; have hcz111_0 : wc.cell? ⟨gb249, 0, none⟩ = some (.int .i64 a0_0) := (blk_cell BK249.out 0).trans rfl; have hcz111_1 : wc.cell? ⟨gb249, 1, none⟩ = some (.int .i64 a0_1) := (blk_cell BK249.out 1).trans rfl; have hfz111_0 := blk_frozen BK249.out 0; have hfz111_1 := blk_frozen BK249.out 1; have hnb112 := NB254_251.out; have hnc112 := NB251_254.out; have hcz113_0 : wc.cell? ⟨gb254, 0, none⟩ = some (.int .i64 0) := (blk_cell BK254.out 0).trans rfl; have hcz113_1 : wc.cell? ⟨gb254, 1, none⟩ = some (.int .i64 0) := (blk_cell BK254.out 1).trans rfl; have hcz113_2 : wc.cell? ⟨gb254, 2, none⟩ = some (.bool true) := (blk_cell BK254.out 2).trans rfl; have hcz113_3 : wc.cell? ⟨gb254, 3, none⟩ = some (.int .i64 x255003_25) := (blk_cell BK254.out 3).trans rfl; have hfz113_0 := blk_frozen BK254.out 0; have hfz113_1 := blk_frozen BK254.out 1; have hfz113_2 := blk_frozen BK254.out 2; have hfz113_3 := blk_frozen BK254.out 3; have hcz114_0 : wc.cell? ⟨gb251, 0, none⟩ = some (.int .i64 0) := (blk_cell BK251.out 0).trans rfl; have hcz114_1 : wc.cell? ⟨gb251, 1, none⟩ = some (.int .i64 0) := (blk_cell BK251.out 1).trans rfl; have hcz114_2 : wc.cell? ⟨gb251, 2, none⟩ = some (.bool false) := (blk_cell BK251.out 2).trans rfl; have hcz114_3 : wc.cell? ⟨gb251, 3, none⟩ = some (.int .i64 0) := (blk_cell BK251.out 3).trans rfl; have hfz114_0 := blk_frozen BK251.out 0; have hfz114_1 := blk_frozen BK251.out 1; have hfz114_2 := blk_frozen BK251.out 2; have hfz114_3 := blk_frozen BK251.out 3)))
            all_goals (refine bodyPost_ret (results_cell_row rfl _ _ gb251 28 #[.int .i64 ji92, .int .i64 0, .bool true, .int .i64 x255003_25] (0, 0) _ rfl (by (with_reducible repeat (first | refine blk_drewN ?_ _ | refine blk_drew ?_ | refine blk_alloc ?_ _)); refine blk_put (cs := #[.int .i64 ji92, .int .i64 0, .bool true, .int .i64 0]) ?_ 3 _ rfl; (with_reducible repeat (first | refine blk_drewN ?_ _ | refine blk_drew ?_ | refine blk_alloc ?_ _)); refine blk_put (cs := #[.int .i64 ji92, .int .i64 0, .bool false, .int .i64 0]) ?_ 2 _ rfl; (with_reducible repeat (first | refine blk_drewN ?_ _ | refine blk_drew ?_ | refine blk_alloc ?_ _)); refine blk_put (cs := #[.int .i64 ji92, .int .i64 0, .bool false, .int .i64 0]) ?_ 1 _ rfl; (with_reducible repeat (first | refine blk_drewN ?_ _ | refine blk_drew ?_ | refine blk_alloc ?_ _)); refine blk_put (cs := #[.int .i64 0, .int .i64 0, .bool false, .int .i64 0]) ?_ 0 _ rfl; (with_reducible repeat (first | refine blk_drewN ?_ _ | refine blk_drew ?_ | refine blk_alloc ?_ _)); refine blk_far ?_ NB251_254.out _; (with_reducible repeat (first | refine blk_drewN ?_ _ | refine blk_drew ?_ | refine blk_alloc ?_ _)); exact BK251.out) Try.underlying28 rfl (by kernel_rfl)) rfl ?_; exact ⟨by first | rfl | (simp [errW_none, errW_some] <;> rfl) | (simp only [← hji90, ← hji92]; first | rfl | (simp [errW_none, errW_some] <;> rfl)) | (simp [*, errW_none, errW_some] <;> rfl), bw HB⟩)
          ·rw [if_neg c91] at H
           have c91b0 : decide (a0_0 < 0) = false := decide_eq_false c91
           clear c91
           by_cases c115 : a0_1 > 0
           ·rw [if_pos c115] at H
            have c115b0 : decide (0 < a0_1) = true := decide_eq_true c115
            clear c115
            obtain ⟨ji116, hji116⟩ : ∃ j_ : Int, (mn (wrap64 (IntKind.u64.wrap ((ji90) - 1))) a0_1) = j_ := ⟨_, rfl⟩
            replace H : (some (0, ji116, true, x255003_25)) = some (r1, r2, r3, r4) := by first | (rw [hji116] at H; exact H) | (simp only [hji116] at H ⊢; exact H)
            (try rw [hji116] at A88)
            (try rw [hji116] at A89)
            have hji116_ : (if a0_1 < (wrap64 (IntKind.u64.wrap ((ji90) - 1))) then a0_1 else (wrap64 (IntKind.u64.wrap ((ji90) - 1)))) = ji116 := hji116
            simp only [Option.some.injEq, Prod.mk.injEq] at H
            obtain ⟨rfl, rfl, rfl, rfl⟩ := H
            have hnb117 := NB250_249.out
            have hnc117 := NB249_250.out
            have hnb118 := NB250_251.out
            have hnc118 := NB251_250.out
            have hnb119 := NB250_254.out
            have hnc119 := NB254_250.out
            have hcz120_0 : wc.cell? ⟨gb250, 0, none⟩ = some (.int .i64 a1_0) := (blk_cell BK250.out 0).trans rfl
            have hcz120_1 : wc.cell? ⟨gb250, 1, none⟩ = some (.int .i64 a1_1) := (blk_cell BK250.out 1).trans rfl
            have hfz120_0 := blk_frozen BK250.out 0
            have hfz120_1 := blk_frozen BK250.out 1
            have tok_ : True := trivial
            repeat ((first | clear tok_ | go_quiet (first | (go_at_call 61; (with_reducible refine (spec_l1Abs.calls a1_0 t260 _ A88.out).mono ?_); rintro e w' ⟨rfl, ⟨nd, rfl⟩⟩; (try exact qd)) | (go_at_call 61; (with_reducible refine (spec_l1Abs.calls a1_1 t261 _ A89.out).mono ?_); rintro e w' ⟨rfl, ⟨nd, rfl⟩⟩; (try exact qd); have hnb121 := NB249_251.out; have hnc121 := NB251_249.out; have hnb122 := NB249_254.out; have hnc122 := NB254_249.out; have hcz123_0 : wc.cell? ⟨gb249, 0, none⟩ = some (.int .i64 a0_0) := (blk_cell BK249.out 0).trans rfl; have hcz123_1 : wc.cell? ⟨gb249, 1, none⟩ = some (.int .i64 a0_1) := (blk_cell BK249.out 1).trans rfl; have hfz123_0 := blk_frozen BK249.out 0; have hfz123_1 := blk_frozen BK249.out 1; have hnb124 := NB254_251.out; have hnc124 := NB251_254.out; have hcz125_0 : wc.cell? ⟨gb254, 0, none⟩ = some (.int .i64 0) := (blk_cell BK254.out 0).trans rfl; have hcz125_1 : wc.cell? ⟨gb254, 1, none⟩ = some (.int .i64 0) := (blk_cell BK254.out 1).trans rfl; have hcz125_2 : wc.cell? ⟨gb254, 2, none⟩ = some (.bool true) := (blk_cell BK254.out 2).trans rfl; have hcz125_3 : wc.cell? ⟨gb254, 3, none⟩ = some (.int .i64 x255003_25) := (blk_cell BK254.out 3).trans rfl; have hfz125_0 := blk_frozen BK254.out 0; have hfz125_1 := blk_frozen BK254.out 1; have hfz125_2 := blk_frozen BK254.out 2; have hfz125_3 := blk_frozen BK254.out 3; have hcz126_0 : wc.cell? ⟨gb251, 0, none⟩ = some (.int .i64 0) := (blk_cell BK251.out 0).trans rfl; have hcz126_1 : wc.cell? ⟨gb251, 1, none⟩ = some (.int .i64 0) := (blk_cell BK251.out 1).trans rfl; have hcz126_2 : wc.cell? ⟨gb251, 2, none⟩ = some (.bool false) := (blk_cell BK251.out 2).trans rfl; have hcz126_3 : wc.cell? ⟨gb251, 3, none⟩ = some (.int .i64 0) := (blk_cell BK251.out 3).trans rfl; have hfz126_0 := blk_frozen BK251.out 0; have hfz126_1 := blk_frozen BK251.out 1; have hfz126_2 := blk_frozen BK251.out 2; have hfz126_3 := blk_frozen BK251.out 3))); try go_wp2_with (first | (go_at_call 61; (with_reducible refine (spec_l1Abs.calls a1_0 t260 _ A88.out).mono ?_); rintro e w' ⟨rfl, ⟨nd, rfl⟩⟩; (try exact qd)) | (go_at_call 61; (with_reducible refine (spec_l1Abs.calls a1_1 t261 _ A89.out).mono ?_); rintro e w' ⟨rfl, ⟨nd, rfl⟩⟩; (try exact qd); have hnb121 := NB249_251.out; have hnc121 := NB251_249.out; have hnb122 := NB249_254.out; have hnc122 := NB254_249.out; have hcz123_0 : wc.cell? ⟨gb249, 0, none⟩ = some (.int .i64 a0_0) := (blk_cell BK249.out 0).trans rfl; have hcz123_1 : wc.cell? ⟨gb249, 1, none⟩ = some (.int .i64 a0_1) := (blk_cell BK249.out 1).trans rfl; have hfz123_0 := blk_frozen BK249.out 0; have hfz123_1 := blk_frozen BK249.out 1; have hnb124 := NB254_251.out; have hnc124 := NB251_254.out; have hcz125_0 : wc.cell? ⟨gb254, 0, none⟩ = some (.int .i64 0) := (blk_cell BK254.out 0).trans rfl; have hcz125_1 : wc.cell? ⟨gb254, 1, none⟩ = some (.int .i64 0) := (blk_cell BK254.out 1).trans rfl; have hcz125_2 : wc.cell? ⟨gb254, 2, none⟩ = some (.bool true) := (blk_cell BK254.out 2).trans rfl; have hcz125_3 : wc.cell? ⟨gb254, 3, none⟩ = some (.int .i64 x255003_25) := (blk_cell BK254.out 3).trans rfl; have hfz125_0 := blk_frozen BK254.out 0; have hfz125_1 := blk_frozen BK254.out 1; have hfz125_2 := blk_frozen BK254.out 2; have hfz125_3 := blk_frozen BK254.out 3; have hcz126_0 : wc.cell? ⟨gb251, 0, none⟩ = some (.int .i64 0) := (blk_cell BK251.out 0).trans rfl; have hcz126_1 : wc.cell? ⟨gb251, 1, none⟩ = some (.int .i64 0) := (blk_cell BK251.out 1).trans rfl; have hcz126_2 : wc.cell? ⟨gb251, 2, none⟩ = some (.bool false) := (blk_cell BK251.out 2).trans rfl; have hcz126_3 : wc.cell? ⟨gb251, 3, none⟩ = some (.int .i64 0) := (blk_cell BK251.out 3).trans rfl; have hfz126_0 := blk_frozen BK251.out 0; have hfz126_1 := blk_frozen BK251.out 1; have hfz126_2 := blk_frozen BK251.out 2; have hfz126_3 := blk_frozen BK251.out 3)))
            all_goals (refine bodyPost_ret (results_cell_row rfl _ _ gb251 28 #[.int .i64 0, .int .i64 ji116, .bool true, .int .i64 x255003_25] (0, 0) _ rfl (by (with_reducible repeat (first | refine blk_drewN ?_ _ | refine blk_drew ?_ | refine blk_alloc ?_ _)); refine blk_put (cs := #[.int .i64 0, .int .i64 ji116, .bool true, .int .i64 0]) ?_ 3 _ rfl; (with_reducible repeat (first | refine blk_drewN ?_ _ | refine blk_drew ?_ | refine blk_alloc ?_ _)); refine blk_put (cs := #[.int .i64 0, .int .i64 ji116, .bool false, .int .i64 0]) ?_ 2 _ rfl; (with_reducible repeat (first | refine blk_drewN ?_ _ | refine blk_drew ?_ | refine blk_alloc ?_ _)); refine blk_put (cs := #[.int .i64 0, .int .i64 0, .bool false, .int .i64 0]) ?_ 1 _ rfl; (with_reducible repeat (first | refine blk_drewN ?_ _ | refine blk_drew ?_ | refine blk_alloc ?_ _)); refine blk_put (cs := #[.int .i64 0, .int .i64 0, .bool false, .int .i64 0]) ?_ 0 _ rfl; (with_reducible repeat (first | refine blk_drewN ?_ _ | refine blk_drew ?_ | refine blk_alloc ?_ _)); refine blk_far ?_ NB251_254.out _; (with_reducible repeat (first | refine blk_drewN ?_ _ | refine blk_drew ?_ | refine blk_alloc ?_ _)); exact BK251.out) Try.underlying28 rfl (by kernel_rfl)) rfl ?_; exact ⟨by first | rfl | (simp [errW_none, errW_some] <;> rfl) | (simp only [← hji90, ← hji116]; first | rfl | (simp [errW_none, errW_some] <;> rfl)) | (simp [*, errW_none, errW_some] <;> rfl), bw HB⟩)
           ·rw [if_neg c115] at H
            have c115b0 : decide (0 < a0_1) = false := decide_eq_false c115
            clear c115
            simp only [Option.some.injEq, Prod.mk.injEq] at H
            obtain ⟨rfl, rfl, rfl, rfl⟩ := H
            have hnb127 := NB250_249.out
            have hnc127 := NB249_250.out
            have hnb128 := NB250_251.out
            have hnc128 := NB251_250.out
            have hnb129 := NB250_254.out
            have hnc129 := NB254_250.out
            have hcz130_0 : wc.cell? ⟨gb250, 0, none⟩ = some (.int .i64 a1_0) := (blk_cell BK250.out 0).trans rfl
            have hcz130_1 : wc.cell? ⟨gb250, 1, none⟩ = some (.int .i64 a1_1) := (blk_cell BK250.out 1).trans rfl
            have hfz130_0 := blk_frozen BK250.out 0
            have hfz130_1 := blk_frozen BK250.out 1
            have tok_ : True := trivial
            repeat ((first | clear tok_ | go_quiet (first | (go_at_call 61; (with_reducible refine (spec_l1Abs.calls a1_0 t260 _ A88.out).mono ?_); rintro e w' ⟨rfl, ⟨nd, rfl⟩⟩; (try exact qd)) | (go_at_call 61; (with_reducible refine (spec_l1Abs.calls a1_1 t261 _ A89.out).mono ?_); rintro e w' ⟨rfl, ⟨nd, rfl⟩⟩; (try exact qd); have hnb131 := NB249_251.out; have hnc131 := NB251_249.out; have hnb132 := NB249_254.out; have hnc132 := NB254_249.out; have hcz133_0 : wc.cell? ⟨gb249, 0, none⟩ = some (.int .i64 a0_0) := (blk_cell BK249.out 0).trans rfl; have hcz133_1 : wc.cell? ⟨gb249, 1, none⟩ = some (.int .i64 a0_1) := (blk_cell BK249.out 1).trans rfl; have hfz133_0 := blk_frozen BK249.out 0; have hfz133_1 := blk_frozen BK249.out 1; have hnb134 := NB254_251.out; have hnc134 := NB251_254.out; have hcz135_0 : wc.cell? ⟨gb254, 0, none⟩ = some (.int .i64 0) := (blk_cell BK254.out 0).trans rfl; have hcz135_1 : wc.cell? ⟨gb254, 1, none⟩ = some (.int .i64 0) := (blk_cell BK254.out 1).trans rfl; have hcz135_2 : wc.cell? ⟨gb254, 2, none⟩ = some (.bool true) := (blk_cell BK254.out 2).trans rfl; have hcz135_3 : wc.cell? ⟨gb254, 3, none⟩ = some (.int .i64 x255003_25) := (blk_cell BK254.out 3).trans rfl; have hfz135_0 := blk_frozen BK254.out 0; have hfz135_1 := blk_frozen BK254.out 1; have hfz135_2 := blk_frozen BK254.out 2; have hfz135_3 := blk_frozen BK254.out 3; have hcz136_0 : wc.cell? ⟨gb251, 0, none⟩ = some (.int .i64 0) := (blk_cell BK251.out 0).trans rfl; have hcz136_1 : wc.cell? ⟨gb251, 1, none⟩ = some (.int .i64 0) := (blk_cell BK251.out 1).trans rfl; have hcz136_2 : wc.cell? ⟨gb251, 2, none⟩ = some (.bool false) := (blk_cell BK251.out 2).trans rfl; have hcz136_3 : wc.cell? ⟨gb251, 3, none⟩ = some (.int .i64 0) := (blk_cell BK251.out 3).trans rfl; have hfz136_0 := blk_frozen BK251.out 0; have hfz136_1 := blk_frozen BK251.out 1; have hfz136_2 := blk_frozen BK251.out 2; have hfz136_3 := blk_frozen BK251.out 3))); try go_wp2_with (first | (go_at_call 61; (with_reducible refine (spec_l1Abs.calls a1_0 t260 _ A88.out).mono ?_); rintro e w' ⟨rfl, ⟨nd, rfl⟩⟩; (try exact qd)) | (go_at_call 61; (with_reducible refine (spec_l1Abs.calls a1_1 t261 _ A89.out).mono ?_); rintro e w' ⟨rfl, ⟨nd, rfl⟩⟩; (try exact qd); have hnb131 := NB249_251.out; have hnc131 := NB251_249.out; have hnb132 := NB249_254.out; have hnc132 := NB254_249.out; have hcz133_0 : wc.cell? ⟨gb249, 0, none⟩ = some (.int .i64 a0_0) := (blk_cell BK249.out 0).trans rfl; have hcz133_1 : wc.cell? ⟨gb249, 1, none⟩ = some (.int .i64 a0_1) := (blk_cell BK249.out 1).trans rfl; have hfz133_0 := blk_frozen BK249.out 0; have hfz133_1 := blk_frozen BK249.out 1; have hnb134 := NB254_251.out; have hnc134 := NB251_254.out; have hcz135_0 : wc.cell? ⟨gb254, 0, none⟩ = some (.int .i64 0) := (blk_cell BK254.out 0).trans rfl; have hcz135_1 : wc.cell? ⟨gb254, 1, none⟩ = some (.int .i64 0) := (blk_cell BK254.out 1).trans rfl; have hcz135_2 : wc.cell? ⟨gb254, 2, none⟩ = some (.bool true) := (blk_cell BK254.out 2).trans rfl; have hcz135_3 : wc.cell? ⟨gb254, 3, none⟩ = some (.int .i64 x255003_25) := (blk_cell BK254.out 3).trans rfl; have hfz135_0 := blk_frozen BK254.out 0; have hfz135_1 := blk_frozen BK254.out 1; have hfz135_2 := blk_frozen BK254.out 2; have hfz135_3 := blk_frozen BK254.out 3; have hcz136_0 : wc.cell? ⟨gb251, 0, none⟩ = some (.int .i64 0) := (blk_cell BK251.out 0).trans rfl; have hcz136_1 : wc.cell? ⟨gb251, 1, none⟩ = some (.int .i64 0) := (blk_cell BK251.out 1).trans rfl; have hcz136_2 : wc.cell? ⟨gb251, 2, none⟩ = some (.bool false) := (blk_cell BK251.out 2).trans rfl; have hcz136_3 : wc.cell? ⟨gb251, 3, none⟩ = some (.int .i64 0) := (blk_cell BK251.out 3).trans rfl; have hfz136_0 := blk_frozen BK251.out 0; have hfz136_1 := blk_frozen BK251.out 1; have hfz136_2 := blk_frozen BK251.out 2; have hfz136_3 := blk_frozen BK251.out 3)))
            all_goals (refine bodyPost_ret (results_cell_row rfl _ _ gb251 28 #[.int .i64 0, .int .i64 0, .bool true, .int .i64 x255003_25] (0, 0) _ rfl (by (with_reducible repeat (first | refine blk_drewN ?_ _ | refine blk_drew ?_ | refine blk_alloc ?_ _)); refine blk_put (cs := #[.int .i64 0, .int .i64 0, .bool true, .int .i64 0]) ?_ 3 _ rfl; (with_reducible repeat (first | refine blk_drewN ?_ _ | refine blk_drew ?_ | refine blk_alloc ?_ _)); refine blk_put (cs := #[.int .i64 0, .int .i64 0, .bool false, .int .i64 0]) ?_ 2 _ rfl; (with_reducible repeat (first | refine blk_drewN ?_ _ | refine blk_drew ?_ | refine blk_alloc ?_ _)); refine blk_put (cs := #[.int .i64 0, .int .i64 0, .bool false, .int .i64 0]) ?_ 1 _ rfl; (with_reducible repeat (first | refine blk_drewN ?_ _ | refine blk_drew ?_ | refine blk_alloc ?_ _)); refine blk_put (cs := #[.int .i64 0, .int .i64 0, .bool false, .int .i64 0]) ?_ 0 _ rfl; (with_reducible repeat (first | refine blk_drewN ?_ _ | refine blk_drew ?_ | refine blk_alloc ?_ _)); exact BK251.out) Try.underlying28 rfl (by kernel_rfl)) rfl ?_; exact ⟨by first | rfl | (simp [errW_none, errW_some] <;> rfl) | (simp only [← hji90]; first | rfl | (simp [errW_none, errW_some] <;> rfl)) | (simp [*, errW_none, errW_some] <;> rfl), bw HB⟩)

end Go.Proofs.Ytdjhalelgknnkaa.Q
