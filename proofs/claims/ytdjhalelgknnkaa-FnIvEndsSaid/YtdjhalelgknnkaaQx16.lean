-- Contracts of the program's functions, each with the plain function that it computes.
import Derived.Test.YtdjhalelgknnkaaQx0
import Derived.Test.YtdjhalelgknnkaaQx3
import Derived.Test.YtdjhalelgknnkaaQx8
import Derived.Test.YtdjhalelgknnkaaQx15
namespace Go.Proofs.Ytdjhalelgknnkaa.Q
open Go.RowKit Go.Proofs.YtdjhalelgknnkaaW.PrintWords Go.Proofs.YtdjhalelgknnkaaW.PrintLast Go.Proofs.YtdjhalelgknnkaaW.PrintMore
attribute [local go_sem] max2_int min2_int max_two min_two max_three min_three max_four min_four   -- for this text's walks alone
set_option linter.unusedVariables false
set_option linter.unusedSimpArgs false

/-! ### spec_IvQuo: function 34 -/
def spec_IvQuo.j0 : Nat → Bool → Int → Int → Int → Int → Option (Int × Int × Bool × Int)
 | 0, _, _, _, _, _ => none
 | k + 1, x13, x221000, x221001, x222000, x222001 => if x13 = true then (some (0, 0, false, 0)) else ((spec_l2Parts.f x222000 x222001).bind fun t225 => ((spec_l2Box.f k 47 x221000 x221001 t225).bind fun bt228 => ((spec_IvHas.f x222000 x222001 0).bind fun t233 => (if t233 = true then (some (bt228.1, bt228.2.1, bt228.2.2.1, Go.bits .or .i64 bt228.2.2.2 1)) else (some (bt228.1, bt228.2.1, bt228.2.2.1, bt228.2.2.2))))))
def spec_IvQuo.f (k : Nat) (a0_0 : Int) (a0_1 : Int) (a1_0 : Int) (a1_1 : Int) : Option (Int × Int × Bool × Int) := (spec_IvOk.f a0_0 a0_1).bind fun t223 => (if t223 = true then ((spec_IvOk.f a1_0 a1_1).bind fun t224 => (spec_IvQuo.j0 k (!t224) a0_0 a0_1 a1_0 a1_1)) else (spec_IvQuo.j0 k true a0_0 a0_1 a1_0 a1_1))
theorem spec_IvQuo.mono_l : ∀ k, (∀ y0 y1 y2 y3 y4, LeO (spec_IvQuo.j0 k y0 y1 y2 y3 y4) (spec_IvQuo.j0 (k + 1) y0 y1 y2 y3 y4))
 | 0 => fun _ _ _ _ _ r h => by simp [spec_IvQuo.j0] at h
 | k + 1 => by
  have ih0 := spec_IvQuo.mono_l k
  ·intro y0 y1 y2 y3 y4
   unfold spec_IvQuo.j0
   repeat' first
   | (with_reducible exact ih0 _ _ _ _ _)
   | (with_reducible exact spec_l2Box.mono _ _ _ _ _)
   | (with_reducible exact LeO.refl _)
   | (with_reducible exact LeO.none _)
   | (with_reducible refine LeO.ite ?_ ?_)
   | (with_reducible refine LeO.bind ?_ (fun _ => ?_))
   | exact ih0 _ _ _ _ _
   | exact spec_l2Box.mono _ _ _ _ _
   | exact LeO.none _
   | refine LeO.ite ?_ ?_
   | refine LeO.bind ?_ (fun _ => ?_)
theorem spec_IvQuo.mono : ∀ a0 a1 a2 a3 k, LeO (spec_IvQuo.f k a0 a1 a2 a3) (spec_IvQuo.f (k + 1) a0 a1 a2 a3) := by
 intro a0 a1 a2 a3 k
 have ih0 := spec_IvQuo.mono_l k
 unfold spec_IvQuo.f
 repeat' first
   | (with_reducible exact ih0 _ _ _ _ _)
   | (with_reducible exact spec_l2Box.mono _ _ _ _ _)
   | (with_reducible exact LeO.refl _)
   | (with_reducible exact LeO.none _)
   | (with_reducible refine LeO.ite ?_ ?_)
   | (with_reducible refine LeO.bind ?_ (fun _ => ?_))
   | exact ih0 _ _ _ _ _
   | exact spec_l2Box.mono _ _ _ _ _
   | exact LeO.none _
   | refine LeO.ite ?_ ?_
   | refine LeO.bind ?_ (fun _ => ?_)
def spec_IvQuo.T3 : Bool × List (List Nat × List Nat) := (true, [([], []), ([], []), ([1], [1]), ([0, 2, 2], [0, 2]), ([], []), ([4, 3, 3, 0, 1, 2, 3, 4], [3, 4])])
def spec_IvQuo.B3 : List Nat := [0, 0, 2, 7, 0, 31]
theorem spec_IvQuo.tab3 : rtab .any (opsOf Try.f34 3) = spec_IvQuo.T3 := by kernel_rfl
theorem spec_IvQuo.bits3 : waitsOk spec_IvQuo.T3.2 spec_IvQuo.B3 = true := by kernel_rfl
set_option maxHeartbeats 8000000 in
set_option maxRecDepth 100000 in
theorem spec_IvQuo.calls (k : Nat) (a0_0 : Int) (a0_1 : Int) (a1_0 : Int) (a1_1 : Int) (r1 : Int) (r2 : Int) (r3 : Bool) (r4 : Int) (w : World) (h : spec_IvQuo.f k a0_0 a0_1 a1_0 a1_1 = some (r1, r2, r3, r4)) :
  Calls Try.prog 34 #[.agg #[.int .i64 a0_0, .int .i64 a0_1], .agg #[.int .i64 a1_0, .int .i64 a1_1]] w fun e w' => e = .returned (.agg #[.int .i64 r1, .int .i64 r2, .bool r3, .int .i64 r4]) ∧ Below w.heap.size w w' := by
 have hu25 := Try.underlying25
 have hu28 := Try.underlying28
 have HB := Aside0.mk (Below.refl w.heap.size w)
 have H : ((spec_IvOk.f a0_0 a0_1).bind fun t223 => (if t223 = true then ((spec_IvOk.f a1_0 a1_1).bind fun t224 => (spec_IvQuo.j0 k (!t224) a0_0 a0_1 a1_0 a1_1)) else (spec_IvQuo.j0 k true a0_0 a0_1 a1_0 a1_1))) = some (r1, r2, r3, r4) := h
 clear h
 have HC3 := Aside0.mk H
 clear H
 go_enter Try.func34, Try.ntmps34
 go_upto_region 1 with (first | ((with_reducible refine gate_dst (N := 2) rfl ?_); refine box_event rfl rfl (cs := #[.int .i64 a0_0, .int .i64 a0_1]) (t := 25) (by first | (go_simp; done) | (go_simp; rfl)) ?_; intro gb220 hg w4 hbox hb; have BK220 := Aside0.mk (hbox); have GW220 := bz HB hg; have GE220 := bz HB hg; replace HB := bs HB hb; clear hb hbox hg) | ((with_reducible refine gate_dst (N := 3) rfl ?_); refine box_event rfl rfl (cs := #[.int .i64 a1_0, .int .i64 a1_1]) (t := 25) (by first | (go_simp; done) | (go_simp; rfl)) ?_; intro gb221 hg w5 hbox hb; have BK221 := Aside0.mk (hbox); have GW221 := bz HB hg; have GE221 := bz HB hg; replace HB := bs HB hb; have NB220_221 := bl BK220 hg; have NB221_220 := bg BK220 hg; replace BK220 := bb BK220 hb; clear hb hbox hg) | ((with_reducible refine gate_dst (N := 4) rfl ?_); refine box_event rfl rfl (cs := #[.int .i64 0, .int .i64 0, .bool false, .int .i64 0]) (t := 28) (by first | (go_simp; done) | (go_simp; rfl)) ?_; intro gb222 hg w6 hbox hb; have BK222 := Aside0.mk (hbox); have GW222 := bz HB hg; have GE222 := bz HB hg; replace HB := bs HB hb; have NB220_222 := bl BK220 hg; have NB222_220 := bg BK220 hg; replace BK220 := bb BK220 hb; have NB221_222 := bl BK221 hg; have NB222_221 := bg BK221 hg; replace BK221 := bb BK221 hb; clear hb hbox hg))
 (try simp only [Act.put, List.setIfInBounds_toArray, List.set_cons_zero, List.set_cons_succ])
 go_cut [13] (fun v13 wc => ∃ (kq : Nat) (x13_2 : Bool), v13 = .bool x13_2 ∧ Aside0 (spec_IvQuo.j0 kq x13_2 a0_0 a0_1 a1_0 a1_1 = some (r1, r2, r3, r4)) ∧ Aside0 (kq ≤ k) ∧ Aside0 (wc.heap[gb220]? = some (.cells #[.int .i64 a0_0, .int .i64 a0_1] 25 (0, 0))) ∧ Aside0 (wc.heap[gb221]? = some (.cells #[.int .i64 a1_0, .int .i64 a1_1] 25 (0, 0))) ∧ Aside0 (wc.heap[gb222]? = some (.cells #[.int .i64 0, .int .i64 0, .bool false, .int .i64 0] 28 (0, 0))) ∧ Aside0 (Below w.heap.size w wc))
 case first =>
  have H := HC3.out
  clear HC3
  replace H := Option.bind_eq_some_iff.mp H
  obtain ⟨t223, A70, H⟩ := H
  replace H : (if t223 = true then ((spec_IvOk.f a1_0 a1_1).bind fun t224 => (spec_IvQuo.j0 k (!t224) a0_0 a0_1 a1_0 a1_1)) else (spec_IvQuo.j0 k true a0_0 a0_1 a1_0 a1_1)) = some (r1, r2, r3, r4) := H
  have A7 := Aside0.mk A70
  clear A70
  by_cases c8 : t223 = true
  ·subst c8
   have H1 : ((spec_IvOk.f a1_0 a1_1).bind fun t224 => (spec_IvQuo.j0 k (!t224) a0_0 a0_1 a1_0 a1_1)) = some (r1, r2, r3, r4) := by rw [if_pos rfl] at H; exact H
   clear H
   have H := H1
   clear H1
   replace H := Option.bind_eq_some_iff.mp H
   obtain ⟨t224, A90, H⟩ := H
   replace H : (spec_IvQuo.j0 k (!t224) a0_0 a0_1 a1_0 a1_1) = some (r1, r2, r3, r4) := H
   have A9 := Aside0.mk A90
   clear A90
   have H' := Aside0.mk H
   clear H
   have hnb10 := NB220_221.out
   have hnc10 := NB221_220.out
   have hnb11 := NB220_222.out
   have hnc11 := NB222_220.out
   have hcz12_0 : w6.cell? ⟨gb220, 0, none⟩ = some (.int .i64 a0_0) := (blk_cell BK220.out 0).trans rfl
   have hcz12_1 : w6.cell? ⟨gb220, 1, none⟩ = some (.int .i64 a0_1) := (blk_cell BK220.out 1).trans rfl
   have hfz12_0 := blk_frozen BK220.out 0
   have hfz12_1 := blk_frozen BK220.out 1
   go_wp2_with (first | ((with_reducible refine gate_callee (f := 12) rfl ?_); refine goesL_ (some 7) rfl rfl Try.func12 (by kernel_rfl) rfl #[.agg #[.int .i64 a0_0, .int .i64 a0_1]] rfl (by (try simp only [List.map_toArray, List.map_cons, List.map_nil]); first | done | rfl | (simp only [List.length_drop, List.length_take]; rfl)) ?_; (with_reducible refine (spec_IvOk.calls a0_0 a0_1 true _ A7.out).mono ?_); rintro e w13 ⟨rfl, hb⟩; refine ⟨_, rfl, ?_⟩; replace BK220 := bb BK220 hb; replace BK221 := bb BK221 hb; replace BK222 := bb BK222 hb; replace HB := bs HB hb; (try clear hb); (try clear hb2); (try clear hk); (try clear hi); have hnb14 := NB221_222.out; have hnc14 := NB222_221.out; have hcz15_0 : w13.cell? ⟨gb221, 0, none⟩ = some (.int .i64 a1_0) := (blk_cell BK221.out 0).trans rfl; have hcz15_1 : w13.cell? ⟨gb221, 1, none⟩ = some (.int .i64 a1_1) := (blk_cell BK221.out 1).trans rfl; have hfz15_0 := blk_frozen BK221.out 0; have hfz15_1 := blk_frozen BK221.out 1) | (go_at_call 12; (with_reducible refine (spec_IvOk.calls a1_0 a1_1 t224 _ A9.out).mono ?_); rintro e w16 ⟨rfl, hb⟩; replace BK220 := bb BK220 hb; replace BK221 := bb BK221 hb; replace BK222 := bb BK222 hb; replace HB := bs HB hb; (try clear hb); (try clear hb2); (try clear hk); (try clear hi)))
   go_meet
   case rel => exact ⟨_, (!t224), (by first | rfl | (simp; done) | (simp [*]; done)), H', ⟨by first | omega | exact Nat.le_refl _⟩, ⟨bx BK220⟩, ⟨bx BK221⟩, ⟨bx BK222⟩, ⟨bw HB⟩⟩
  ·replace c8 := Bool.eq_false_iff.mpr c8
   subst c8
   have H1 : (spec_IvQuo.j0 k true a0_0 a0_1 a1_0 a1_1) = some (r1, r2, r3, r4) := by rw [if_neg (show ¬ (false = true) by decide)] at H; exact H
   clear H
   have H := H1
   clear H1
   have H' := Aside0.mk H
   clear H
   have hnb17 := NB220_221.out
   have hnc17 := NB221_220.out
   have hnb18 := NB220_222.out
   have hnc18 := NB222_220.out
   have hcz19_0 : w6.cell? ⟨gb220, 0, none⟩ = some (.int .i64 a0_0) := (blk_cell BK220.out 0).trans rfl
   have hcz19_1 : w6.cell? ⟨gb220, 1, none⟩ = some (.int .i64 a0_1) := (blk_cell BK220.out 1).trans rfl
   have hfz19_0 := blk_frozen BK220.out 0
   have hfz19_1 := blk_frozen BK220.out 1
   go_wp2_with (((with_reducible refine gate_callee (f := 12) rfl ?_); refine goesL_ (some 7) rfl rfl Try.func12 (by kernel_rfl) rfl #[.agg #[.int .i64 a0_0, .int .i64 a0_1]] rfl (by (try simp only [List.map_toArray, List.map_cons, List.map_nil]); first | done | rfl | (simp only [List.length_drop, List.length_take]; rfl)) ?_; (with_reducible refine (spec_IvOk.calls a0_0 a0_1 false _ A7.out).mono ?_); rintro e w20 ⟨rfl, hb⟩; refine ⟨_, rfl, ?_⟩; replace BK220 := bb BK220 hb; replace BK221 := bb BK221 hb; replace BK222 := bb BK222 hb; replace HB := bs HB hb; (try clear hb); (try clear hb2); (try clear hk); (try clear hi)))
   go_meet
   case rel => exact ⟨_, (true), (by first | rfl | (simp; done) | (simp [*]; done)), H', ⟨by first | omega | exact Nat.le_refl _⟩, ⟨bx BK220⟩, ⟨bx BK221⟩, ⟨bx BK222⟩, ⟨bw HB⟩⟩
 case rest =>
  clear HC3
  try clear c1
  try clear p2
  try clear c3
  try clear c8
  try clear c10
  try clear c11
  try clear c12
  try clear c14
  try clear c17
  try clear c18
  try clear hcz12_0
  try clear hcz12_1
  try clear hcz15_0
  try clear hcz15_1
  try clear hcz19_0
  try clear hcz19_1
  try clear hfz12_0
  try clear hfz12_1
  try clear hfz15_0
  try clear hfz15_1
  try clear hfz19_0
  try clear hfz19_1
  obtain ⟨kq, x13_2, rfl, HA, HJ2, BK220, BK221, BK222, HB⟩ := hcut
  cases kq with
  | zero => exact absurd HA.out (by simp [spec_IvQuo.j0])
  | succ kj2 =>
   have H := HA.out
   clear HA
   simp only [spec_IvQuo.j0] at H
   by_cases c21 : x13_2 = true
   ·subst c21
    have H1 : (some (0, 0, false, 0)) = some (r1, r2, r3, r4) := by rw [if_pos rfl] at H; exact H
    clear H
    have H := H1
    clear H1
    simp only [Option.some.injEq, Prod.mk.injEq] at H
    obtain ⟨rfl, rfl, rfl, rfl⟩ := H
    have hnb22 := NB222_220.out
    have hnc22 := NB220_222.out
    have hnb23 := NB222_221.out
    have hnc23 := NB221_222.out
    have hcz24_0 : wc.cell? ⟨gb222, 0, none⟩ = some (.int .i64 0) := (blk_cell BK222.out 0).trans rfl
    have hcz24_1 : wc.cell? ⟨gb222, 1, none⟩ = some (.int .i64 0) := (blk_cell BK222.out 1).trans rfl
    have hcz24_2 : wc.cell? ⟨gb222, 2, none⟩ = some (.bool false) := (blk_cell BK222.out 2).trans rfl
    have hcz24_3 : wc.cell? ⟨gb222, 3, none⟩ = some (.int .i64 0) := (blk_cell BK222.out 3).trans rfl
    have hfz24_0 := blk_frozen BK222.out 0
    have hfz24_1 := blk_frozen BK222.out 1
    have hfz24_2 := blk_frozen BK222.out 2
    have hfz24_3 := blk_frozen BK222.out 3
    go_wp2
    refine bodyPost_ret (results_cell_row rfl _ _ gb222 28 #[.int .i64 0, .int .i64 0, .bool false, .int .i64 0] (0, 0) _ rfl (by (with_reducible repeat (first | refine blk_drewN ?_ _ | refine blk_drew ?_ | refine blk_alloc ?_ _)); refine blk_put (cs := #[.int .i64 0, .int .i64 0, .bool false, .int .i64 0]) ?_ 3 _ rfl; (with_reducible repeat (first | refine blk_drewN ?_ _ | refine blk_drew ?_ | refine blk_alloc ?_ _)); refine blk_put (cs := #[.int .i64 0, .int .i64 0, .bool false, .int .i64 0]) ?_ 2 _ rfl; (with_reducible repeat (first | refine blk_drewN ?_ _ | refine blk_drew ?_ | refine blk_alloc ?_ _)); refine blk_put (cs := #[.int .i64 0, .int .i64 0, .bool false, .int .i64 0]) ?_ 1 _ rfl; (with_reducible repeat (first | refine blk_drewN ?_ _ | refine blk_drew ?_ | refine blk_alloc ?_ _)); refine blk_put (cs := #[.int .i64 0, .int .i64 0, .bool false, .int .i64 0]) ?_ 0 _ rfl; (with_reducible repeat (first | refine blk_drewN ?_ _ | refine blk_drew ?_ | refine blk_alloc ?_ _)); exact BK222.out) Try.underlying28 rfl (by kernel_rfl)) rfl ?_
    exact ⟨by first | rfl | (simp [errW_none, errW_some] <;> rfl) | (simp [*, errW_none, errW_some] <;> rfl), bw HB⟩
   ·replace c21 := Bool.eq_false_iff.mpr c21
    subst c21
    have H1 : ((spec_l2Parts.f a1_0 a1_1).bind fun t225 => ((spec_l2Box.f kj2 47 a0_0 a0_1 t225).bind fun bt228 => ((spec_IvHas.f a1_0 a1_1 0).bind fun t233 => (if t233 = true then (some (bt228.1, bt228.2.1, bt228.2.2.1, Go.bits .or .i64 bt228.2.2.2 1)) else (some (bt228.1, bt228.2.1, bt228.2.2.1, bt228.2.2.2)))))) = some (r1, r2, r3, r4) := by rw [if_neg (show ¬ (false = true) by decide)] at H; exact H
    clear H
    have H := H1
    clear H1
    replace H := Option.bind_eq_some_iff.mp H
    obtain ⟨t225, A250, H⟩ := H
    replace H : ((spec_l2Box.f kj2 47 a0_0 a0_1 t225).bind fun bt228 => ((spec_IvHas.f a1_0 a1_1 0).bind fun t233 => (if t233 = true then (some (bt228.1, bt228.2.1, bt228.2.2.1, Go.bits .or .i64 bt228.2.2.2 1)) else (some (bt228.1, bt228.2.1, bt228.2.2.1, bt228.2.2.2))))) = some (r1, r2, r3, r4) := H
    have A25 := Aside0.mk A250
    clear A250
    replace H := Option.bind_eq_some_iff.mp H
    obtain ⟨⟨t228, t229, t230, t231⟩, A260, H⟩ := H
    replace H : ((spec_IvHas.f a1_0 a1_1 0).bind fun t233 => (if t233 = true then (some (t228, t229, t230, Go.bits .or .i64 t231 1)) else (some (t228, t229, t230, t231)))) = some (r1, r2, r3, r4) := H
    have A26 := Aside0.mk A260
    clear A260
    replace H := Option.bind_eq_some_iff.mp H
    obtain ⟨t233, A270, H⟩ := H
    replace H : (if t233 = true then (some (t228, t229, t230, Go.bits .or .i64 t231 1)) else (some (t228, t229, t230, t231))) = some (r1, r2, r3, r4) := H
    have A27 := Aside0.mk A270
    clear A270
    by_cases c28 : t233 = true
    ·subst c28
     have H1 : (some (t228, t229, t230, Go.bits .or .i64 t231 1)) = some (r1, r2, r3, r4) := by rw [if_pos rfl] at H; exact H
     clear H
     have H := H1
     clear H1
     simp only [Option.some.injEq, Prod.mk.injEq] at H
     obtain ⟨rfl, rfl, rfl, rfl⟩ := H
     try go_wp2
     have n0_ := Aside0.mk (blk_drew BK220.out)
     have n1_ := Aside0.mk (blk_drew BK221.out)
     have n2_ := Aside0.mk (blk_drew BK222.out)
     have n3_ := Aside0.mk (below_drew1 HB.out)
     clear BK220
     clear BK221
     clear BK222
     clear HB
     have BK220 := n0_
     have BK221 := n1_
     have BK222 := n2_
     have HB := n3_
     clear n0_ n1_ n2_ n3_
     refine start_ (n := 6) (S := fun w' => True) (ds := []) #[false, false, false, false, false, false] (by kernel_rfl) rfl rfl trivial (fun hHeld => ?_); refine with_tabW spec_IvQuo.tab3 spec_IvQuo.bits3 (fun HT_ HW_ => ?_)
     generalize wc.drew = w29 at BK220 BK221 BK222 HB hHeld ⊢
     refine inv_at [0, 1, 2, 3, 4, 5] (fun a0_ b a w' => ∃ (v226 : Value) (gb232 : Nat) (m4_ : Value), a = putSel a0_ b [(0, 15, .agg #[.int .i64 a0_0, .int .i64 a0_1]), (1, 16, .agg #[.int .i64 a1_0, .int .i64 a1_1]), (2, 17, v226), (3, 18, .agg #[.int .i64 t228, .int .i64 t229, .bool t230, .int .i64 t231]), (4, 5, m4_)] ∧ (w'.heap[gb220]? = some (.cells #[.int .i64 a0_0, .int .i64 a0_1] 25 (0, 0))) ∧ (w'.heap[gb221]? = some (.cells #[.int .i64 a1_0, .int .i64 a1_1] 25 (0, 0))) ∧ (w'.heap[gb222]? = some (.cells #[.int .i64 0, .int .i64 0, .bool false, .int .i64 0] 28 (0, 0))) ∧ (Below w.heap.size w w') ∧ (b 2 = true → Kd.R k25 25 w' w.heap.size (fun k_ => k_ ≠ gb220 ∧ k_ ≠ gb221) v226 t225) ∧ (b 4 = true → b 5 = false → w'.heap[gb232]? = some (.cells #[.int .i64 0, .int .i64 0, .bool false, .int .i64 0] 28 (0, 0))) ∧ (b 4 = true → w.heap.size ≤ gb232) ∧ (b 4 = true → w.heap.size ≤ gb232) ∧ (b 4 = true → gb220 ≠ gb232) ∧ (b 4 = true → gb232 ≠ gb220) ∧ (b 4 = true → gb221 ≠ gb232) ∧ (b 4 = true → gb232 ≠ gb221) ∧ (b 4 = true → gb222 ≠ gb232) ∧ (b 4 = true → gb232 ≠ gb222) ∧ (b 5 = true → w'.heap[gb232]? = some (.cells #[.int .i64 t228, .int .i64 t229, .bool t230, .int .i64 t231] 28 (0, 0))) ∧ (b 4 = true → (m4_ : Value) = .pointer (some ⟨gb232, 0, none⟩))) HT_.out HW_.out (by kernel_rfl) (by kernel_rfl) ?_ ?_ ?_
     ·exact ⟨.bool false, 0, .bool false, by simp only [putSel, Bool.false_eq_true, if_false], BK220.out, BK221.out, BK222.out, HB.out, fun h_ => absurd h_ (by decide), fun h_ => absurd h_ (by decide), fun h_ => absurd h_ (by decide), fun h_ => absurd h_ (by decide), fun h_ => absurd h_ (by decide), fun h_ => absurd h_ (by decide), fun h_ => absurd h_ (by decide), fun h_ => absurd h_ (by decide), fun h_ => absurd h_ (by decide), fun h_ => absurd h_ (by decide), fun h_ => absurd h_ (by decide), fun h_ => absurd h_ (by decide)⟩
     ·skip
      clear BK220 BK221 BK222 HB
      refine steps_cons ?_ ?_
      ·rintro b a w' ⟨v226, gb232, m4_, ha, Q_BK220, Q_BK221, Q_BK222, Q_HB, Q_HO227, Q_BK232, Q_GW232, Q_GE232, Q_NB220_232, Q_NB232_220, Q_NB221_232, Q_NB232_221, Q_NB222_232, Q_NB232_222, Q_BK232_e5, Q_X4_⟩ hb_ hon hoff
       refine ⟨_, rfl, fun K hK => ?_⟩
       have e2 : a.tmps[2]? = some (.pointer (some ⟨gb220, 0, none⟩)) := by rw [ha]; exact (putSel_off rfl).trans rfl
       replace ha := Aside0.mk ha
       have BK220 := Aside0.mk Q_BK220
       have BK221 := Aside0.mk Q_BK221
       have BK222 := Aside0.mk Q_BK222
       have HB := Aside0.mk Q_HB
       have hc0_ : w'.cell? ⟨gb220, 0, none⟩ = some (.int .i64 a0_0) := (blk_cell BK220.out 0).trans rfl
       have hc1_ : w'.cell? ⟨gb220, 1, none⟩ = some (.int .i64 a0_1) := (blk_cell BK220.out 1).trans rfl
       refine value_ (w1 := w') (v := .agg #[.int .i64 a0_0, .int .i64 a0_1]) (by rfl) rfl ?_ ?_
       ·go_simp
        (try simp only [i64_w])
        try rfl
       refine hK.out _ _ ⟨v226, gb232, m4_, (by rw [ha.out]; exact putSel_upk 0 hb_ rfl rfl rfl), Q_BK220, Q_BK221, Q_BK222, Q_HB, Q_HO227, Q_BK232, Q_GW232, Q_GE232, Q_NB220_232, Q_NB232_220, Q_NB221_232, Q_NB232_221, Q_NB222_232, Q_NB232_222, fun h0_ => absurd ((hoff 5 (by kernel_rfl)).symm.trans h0_) (by decide), Q_X4_⟩
      refine steps_cons ?_ ?_
      ·rintro b a w' ⟨v226, gb232, m4_, ha, Q_BK220, Q_BK221, Q_BK222, Q_HB, Q_HO227, Q_BK232, Q_GW232, Q_GE232, Q_NB220_232, Q_NB232_220, Q_NB221_232, Q_NB232_221, Q_NB222_232, Q_NB232_222, Q_BK232_e5, Q_X4_⟩ hb_ hon hoff
       refine ⟨_, rfl, fun K hK => ?_⟩
       have e3 : a.tmps[3]? = some (.pointer (some ⟨gb221, 0, none⟩)) := by rw [ha]; exact (putSel_off rfl).trans rfl
       replace ha := Aside0.mk ha
       have BK220 := Aside0.mk Q_BK220
       have BK221 := Aside0.mk Q_BK221
       have BK222 := Aside0.mk Q_BK222
       have HB := Aside0.mk Q_HB
       have hc0_ : w'.cell? ⟨gb221, 0, none⟩ = some (.int .i64 a1_0) := (blk_cell BK221.out 0).trans rfl
       have hc1_ : w'.cell? ⟨gb221, 1, none⟩ = some (.int .i64 a1_1) := (blk_cell BK221.out 1).trans rfl
       refine value_ (w1 := w') (v := .agg #[.int .i64 a1_0, .int .i64 a1_1]) (by rfl) rfl ?_ ?_
       ·go_simp
        (try simp only [i64_w])
        try rfl
       refine hK.out _ _ ⟨v226, gb232, m4_, (by rw [ha.out]; exact putSel_upk 1 hb_ rfl rfl rfl), Q_BK220, Q_BK221, Q_BK222, Q_HB, fun h0_ => absurd ((hoff 2 (by kernel_rfl)).symm.trans h0_) (by decide), Q_BK232, Q_GW232, Q_GE232, Q_NB220_232, Q_NB232_220, Q_NB221_232, Q_NB232_221, Q_NB222_232, Q_NB232_222, fun h0_ => absurd ((hoff 5 (by kernel_rfl)).symm.trans h0_) (by decide), Q_X4_⟩
      refine steps_cons ?_ ?_
      ·rintro b a w' ⟨v226, gb232, m4_, ha, Q_BK220, Q_BK221, Q_BK222, Q_HB, Q_HO227, Q_BK232, Q_GW232, Q_GE232, Q_NB220_232, Q_NB232_220, Q_NB221_232, Q_NB232_221, Q_NB222_232, Q_NB232_222, Q_BK232_e5, Q_X4_⟩ hb_ hon hoff
       refine ⟨_, rfl, fun K hK => ?_⟩
       have e16 : a.tmps[16]? = some (.agg #[.int .i64 a1_0, .int .i64 a1_1]) := by rw [ha]; exact putSel_on (e := (1, 16, .agg #[.int .i64 a1_0, .int .i64 a1_1])) 1 rfl rfl (hon 1 (by kernel_rfl)) rfl
       replace ha := Aside0.mk ha
       have BK220 := Aside0.mk Q_BK220
       have BK221 := Aside0.mk Q_BK221
       have BK222 := Aside0.mk Q_BK222
       have HB := Aside0.mk Q_HB
       refine goes_ Try.func56 (by kernel_rfl) rfl #[.agg #[.int .i64 a1_0, .int .i64 a1_1]] (by rfl) rfl rfl (by first | (simp only [List.map_toArray, List.map_cons, List.map_nil, Act.eval, Array.getD_eq_getD_getElem?, Option.getD_some, e16]; done) | (simp only [List.map_toArray, List.map_cons, List.map_nil, Act.eval, Array.getD_eq_getD_getElem?, Option.getD_some, e16]; rfl)) ?_
       with_reducible refine (spec_l2Parts.calls a1_0 a1_1 t225 _ A25.out).mono ?_
       rintro e w30 ⟨v226, rfl, ho0, hb⟩
       refine ⟨_, rfl, ?_⟩
       have n0_ := Aside0.mk (Kd.R_lower (Kd.R_newB (Kd.R_newB ho0 (bk BK220)) (bk BK221)) (below_size (bw HB)))
       have n1_ := bb BK220 hb
       have n2_ := bb BK221 hb
       have n3_ := bb BK222 hb
       have n4_ := bs HB hb
       have z_BK232 := fun (h0_ : b 4 = true) (h1_ : b 5 = false) => (show w30.heap[gb232]? = some (.cells #[.int .i64 0, .int .i64 0, .bool false, .int .i64 0] 28 (0, 0)) from by first | exact (blk_below (g := gb232) (o := .cells #[.int .i64 0, .int .i64 0, .bool false, .int .i64 0] 28 (0, 0)) (by (with_reducible repeat (first | refine blk_drewN ?_ _ | refine blk_drew ?_ | refine blk_alloc ?_ _)); exact (Q_BK232 h0_ h1_)) hb))
       clear BK220
       clear BK221
       clear BK222
       clear HB
       have HO227 := n0_
       have BK220 := n1_
       have BK221 := n2_
       have BK222 := n3_
       have HB := n4_
       clear n0_ n1_ n2_ n3_ n4_
       (try clear hb)
       (try clear hb2)
       (try clear hk)
       (try clear hi)
       (try clear ho0)
       refine hK.out _ _ ⟨v226, gb232, m4_, (by rw [ha.out]; exact putSel_upk 2 hb_ rfl rfl rfl), (bk BK220), (bk BK221), (bk BK222), (bw HB), fun _ => (by (with_reducible repeat (first | apply Kd.R_alloc | apply Kd.R_drewN | apply Kd.R_drew)); exact Kd.R_mono HO227.out (fun _ hk => ⟨hk.1.2, hk.2⟩)), z_BK232, Q_GW232, Q_GE232, Q_NB220_232, Q_NB232_220, Q_NB221_232, Q_NB232_221, Q_NB222_232, Q_NB232_222, fun h0_ => absurd ((hoff 5 (by kernel_rfl)).symm.trans h0_) (by decide), Q_X4_⟩
      refine steps_cons ?_ ?_
      ·rintro b a w' ⟨v226, gb232, m4_, ha, Q_BK220, Q_BK221, Q_BK222, Q_HB, Q_HO227, Q_BK232, Q_GW232, Q_GE232, Q_NB220_232, Q_NB232_220, Q_NB221_232, Q_NB232_221, Q_NB222_232, Q_NB232_222, Q_BK232_e5, Q_X4_⟩ hb_ hon hoff
       refine ⟨_, rfl, fun K hK => ?_⟩
       have e15 : a.tmps[15]? = some (.agg #[.int .i64 a0_0, .int .i64 a0_1]) := by rw [ha]; exact putSel_on (e := (0, 15, .agg #[.int .i64 a0_0, .int .i64 a0_1])) 0 rfl rfl (hon 0 (by kernel_rfl)) rfl
       have e17 : a.tmps[17]? = some (v226) := by rw [ha]; exact putSel_on (e := (2, 17, v226)) 2 rfl rfl (hon 2 (by kernel_rfl)) rfl
       replace ha := Aside0.mk ha
       have BK220 := Aside0.mk Q_BK220
       have BK221 := Aside0.mk Q_BK221
       have BK222 := Aside0.mk Q_BK222
       have HB := Aside0.mk Q_HB
       have HO227 := Aside0.mk (Q_HO227 (hon 2 (by kernel_rfl)))
       obtain ⟨Ao32, co32, eo32⟩ := Kd.R_slice HO227.out
       (first | subst eo32 | (injection eo32 with f1_ f2_ f3_; have f4_ := f1_.symm; have f5_ := f3_.symm; clear f1_ f2_ f3_; subst f4_; subst f5_))
       refine goes_ Try.func55 (by kernel_rfl) rfl #[.int .i64 47, .agg #[.int .i64 a0_0, .int .i64 a0_1], .slice Ao32 t225.length co32] (by rfl) rfl rfl (by first | (simp only [List.map_toArray, List.map_cons, List.map_nil, Act.eval, Array.getD_eq_getD_getElem?, Option.getD_some, e15, e17]; done) | (simp only [List.map_toArray, List.map_cons, List.map_nil, Act.eval, Array.getD_eq_getD_getElem?, Option.getD_some, e15, e17]; rfl)) ?_
       with_reducible refine (spec_l2Box.calls kj2 47 a0_0 a0_1 _ _ t225 t228 t229 t230 t231 _ ?side1 ?side2 A26.out).mono ?_
       (case side1 => repeat (first | exact (Kd.R_reads' HO227.out).2.2 | (with_reducible refine Kd.C_alloc ?_ _) | (with_reducible refine Kd.C_drewN ?_ _) | (with_reducible refine Kd.C_drew ?_)))
       (case side2 => exact (Kd.R_reads' HO227.out).2.1)
       rintro e w33 ⟨rfl, hb⟩
       refine ⟨_, rfl, ?_⟩
       have n0_ := Aside0.mk (Kd.R_below (by (with_reducible repeat (first | apply Kd.R_alloc | apply Kd.R_drewN | apply Kd.R_drew)); exact HO227.out) hb)
       have n1_ := bb BK220 hb
       have n2_ := bb BK221 hb
       have n3_ := bb BK222 hb
       have n4_ := bs HB hb
       have z_BK232 := fun (h0_ : b 4 = true) (h1_ : b 5 = false) => (show w33.heap[gb232]? = some (.cells #[.int .i64 0, .int .i64 0, .bool false, .int .i64 0] 28 (0, 0)) from by first | exact (blk_below (g := gb232) (o := .cells #[.int .i64 0, .int .i64 0, .bool false, .int .i64 0] 28 (0, 0)) (by (with_reducible repeat (first | refine blk_drewN ?_ _ | refine blk_drew ?_ | refine blk_alloc ?_ _)); exact (Q_BK232 h0_ h1_)) hb))
       clear HO227
       clear BK220
       clear BK221
       clear BK222
       clear HB
       have HO227 := n0_
       have BK220 := n1_
       have BK221 := n2_
       have BK222 := n3_
       have HB := n4_
       clear n0_ n1_ n2_ n3_ n4_
       (try clear hb)
       (try clear hb2)
       (try clear hk)
       (try clear hi)
       refine hK.out _ _ ⟨.slice Ao32 t225.length co32, gb232, m4_, (by rw [ha.out]; exact putSel_upk 3 hb_ rfl rfl rfl), (bk BK220), (bk BK221), (bk BK222), (bw HB), fun _ => (by (with_reducible repeat (first | apply Kd.R_alloc | apply Kd.R_drewN | apply Kd.R_drew)); exact HO227.out), z_BK232, Q_GW232, Q_GE232, Q_NB220_232, Q_NB232_220, Q_NB221_232, Q_NB232_221, Q_NB222_232, Q_NB232_222, fun h0_ => absurd ((hoff 5 (by kernel_rfl)).symm.trans h0_) (by decide), Q_X4_⟩
      refine steps_cons ?_ ?_
      ·rintro b a w' ⟨v226, gb232, m4_, ha, Q_BK220, Q_BK221, Q_BK222, Q_HB, Q_HO227, Q_BK232, Q_GW232, Q_GE232, Q_NB220_232, Q_NB232_220, Q_NB221_232, Q_NB232_221, Q_NB222_232, Q_NB232_222, Q_BK232_e5, Q_X4_⟩ hb_ hon hoff
       refine ⟨_, rfl, fun K hK => ?_⟩
       replace ha := Aside0.mk ha
       have BK220 := Aside0.mk Q_BK220
       have BK221 := Aside0.mk Q_BK221
       have BK222 := Aside0.mk Q_BK222
       have HB := Aside0.mk Q_HB
       refine box_step ?hg (N := 5) ?hd (cs := #[.int .i64 0, .int .i64 0, .bool false, .int .i64 0]) (t := 28) ?hr ?_; (case hd => rfl); (case hg => rfl); (case hr => first | (go_simp; done) | (go_simp; rfl))
       intro gb232 hg w30 hbox hb
       have n0_ := bb BK220 hb
       have n1_ := bb BK221 hb
       have n2_ := bb BK222 hb
       have n3_ := bs HB hb
       have n4_ := Aside0.mk (hbox)
       have n5_ := bz HB hg
       have n6_ := bz HB hg
       have n7_ := bl BK220 hg
       have n8_ := bg BK220 hg
       have n9_ := bl BK221 hg
       have n10_ := bg BK221 hg
       have n11_ := bl BK222 hg
       have n12_ := bg BK222 hg
       have z_HO227 := fun (h0_ : b 2 = true) => (show Kd.R k25 25 w30 w.heap.size (fun k_ => k_ ≠ gb220 ∧ k_ ≠ gb221) v226 t225 from by first | exact (Kd.R_below (by (with_reducible repeat (first | apply Kd.R_alloc | apply Kd.R_drewN | apply Kd.R_drew)); exact (Q_HO227 h0_)) hb) | exact Kd.R_mono (Kd.R_below (by (with_reducible repeat (first | apply Kd.R_alloc | apply Kd.R_drewN | apply Kd.R_drew)); exact (Q_HO227 h0_)) hb) (fun _ h_ => by first | trivial | exact h_ | exact h_.1))
       clear BK220
       clear BK221
       clear BK222
       clear HB
       have BK220 := n0_
       have BK221 := n1_
       have BK222 := n2_
       have HB := n3_
       have BK232 := n4_
       have GW232 := n5_
       have GE232 := n6_
       have NB220_232 := n7_
       have NB232_220 := n8_
       have NB221_232 := n9_
       have NB232_221 := n10_
       have NB222_232 := n11_
       have NB232_222 := n12_
       clear n0_ n1_ n2_ n3_ n4_ n5_ n6_ n7_ n8_ n9_ n10_ n11_ n12_
       clear hb hbox hg
       refine hK.out _ _ ⟨v226, gb232, (.pointer (some ⟨gb232, 0, none⟩)), (by rw [ha.out]; exact putSel_upk 4 hb_ rfl rfl rfl), (bk BK220), (bk BK221), (bk BK222), (bw HB), z_HO227, fun _ _ => (bk BK232), fun _ => GW232.out, fun _ => GE232.out, fun _ => NB220_232.out, fun _ => NB232_220.out, fun _ => NB221_232.out, fun _ => NB232_221.out, fun _ => NB222_232.out, fun _ => NB232_222.out, fun h0_ => absurd ((hoff 5 (by kernel_rfl)).symm.trans h0_) (by decide), fun _ => rfl⟩
      refine steps_cons ?_ ?_
      ·rintro b a w' ⟨v226, gb232, m4_, ha, Q_BK220, Q_BK221, Q_BK222, Q_HB, Q_HO227, Q_BK232, Q_GW232, Q_GE232, Q_NB220_232, Q_NB232_220, Q_NB221_232, Q_NB232_221, Q_NB222_232, Q_NB232_222, Q_BK232_e5, Q_X4_⟩ hb_ hon hoff
       refine ⟨_, rfl, fun K hK => ?_⟩
       have e5 : a.tmps[5]? = some (m4_) := by rw [ha]; exact putSel_on (e := (4, 5, m4_)) 4 rfl rfl (hon 4 (by kernel_rfl)) rfl
       rw [Q_X4_ (hon 4 (by kernel_rfl))] at e5
       have e18 : a.tmps[18]? = some (.agg #[.int .i64 t228, .int .i64 t229, .bool t230, .int .i64 t231]) := by rw [ha]; exact putSel_on (e := (3, 18, .agg #[.int .i64 t228, .int .i64 t229, .bool t230, .int .i64 t231])) 3 rfl rfl (hon 3 (by kernel_rfl)) rfl
       replace ha := Aside0.mk ha
       have BK220 := Aside0.mk Q_BK220
       have BK221 := Aside0.mk Q_BK221
       have BK222 := Aside0.mk Q_BK222
       have HB := Aside0.mk Q_HB
       have HO227 := Aside0.mk (Q_HO227 (hon 2 (by kernel_rfl)))
       have BK232 := Aside0.mk (Q_BK232 (hon 4 (by kernel_rfl)) hb_)
       have GW232 := Aside0.mk (Q_GW232 (hon 4 (by kernel_rfl)))
       have GE232 := Aside0.mk (Q_GE232 (hon 4 (by kernel_rfl)))
       have NB220_232 := Aside0.mk (Q_NB220_232 (hon 4 (by kernel_rfl)))
       have NB232_220 := Aside0.mk (Q_NB232_220 (hon 4 (by kernel_rfl)))
       have NB221_232 := Aside0.mk (Q_NB221_232 (hon 4 (by kernel_rfl)))
       have NB232_221 := Aside0.mk (Q_NB232_221 (hon 4 (by kernel_rfl)))
       have NB222_232 := Aside0.mk (Q_NB222_232 (hon 4 (by kernel_rfl)))
       have NB232_222 := Aside0.mk (Q_NB232_222 (hon 4 (by kernel_rfl)))
       have hs35 : w'.cell? ⟨gb232, 0, none⟩ = some (.int .i64 0) := (blk_cell BK232.out 0).trans rfl
       have hfs35 := blk_frozen BK232.out 0
       have hns35_0 := NB220_232.out
       have hns35_1 := NB221_232.out
       have hns35_2 := NB222_232.out
       have hms35_0 := NB232_220.out
       have hms35_1 := NB232_221.out
       have hms35_2 := NB232_222.out
       have hs36 : w'.cell? ⟨gb232, 1, none⟩ = some (.int .i64 0) := (blk_cell BK232.out 1).trans rfl
       have hfs36 := blk_frozen BK232.out 1
       have hns36_0 := NB220_232.out
       have hns36_1 := NB221_232.out
       have hns36_2 := NB222_232.out
       have hms36_0 := NB232_220.out
       have hms36_1 := NB232_221.out
       have hms36_2 := NB232_222.out
       have hs37 : w'.cell? ⟨gb232, 2, none⟩ = some (.bool false) := (blk_cell BK232.out 2).trans rfl
       have hfs37 := blk_frozen BK232.out 2
       have hns37_0 := NB220_232.out
       have hns37_1 := NB221_232.out
       have hns37_2 := NB222_232.out
       have hms37_0 := NB232_220.out
       have hms37_1 := NB232_221.out
       have hms37_2 := NB232_222.out
       have hs38 : w'.cell? ⟨gb232, 3, none⟩ = some (.int .i64 0) := (blk_cell BK232.out 3).trans rfl
       have hfs38 := blk_frozen BK232.out 3
       have hns38_0 := NB220_232.out
       have hns38_1 := NB221_232.out
       have hns38_2 := NB222_232.out
       have hms38_0 := NB232_220.out
       have hms38_1 := NB232_221.out
       have hms38_2 := NB232_222.out
       refine skip_ (w1 := ?_) (by rfl) rfl ?_ ?_
       rotate_left
       ·go_simp
        rfl
       refine hK.out _ _ ⟨v226, gb232, m4_, (by rw [ha.out]; exact putSel_none (v := undef) rfl), (bx BK220), (bx BK221), (bx BK222), (bw HB), fun _ => (by (with_reducible repeat (first | apply Kd.R_alloc | apply Kd.R_drewN | apply Kd.R_drew)); exact Kd.R_mono (Kd.R_far (p := ⟨gb232, 3, none⟩) (Kd.R_far (p := ⟨gb232, 2, none⟩) (Kd.R_far (p := ⟨gb232, 1, none⟩) (Kd.R_far (p := ⟨gb232, 0, none⟩) (Kd.R_types HO227.out BK232.out (by decide)) (fun _ hk => hk.2) (.int .i64 t228)) (fun _ hk => hk.2) (.int .i64 t229)) (fun _ hk => hk.2) (.bool t230)) (fun _ hk => hk.2) (.int .i64 t231)) (fun _ hk => ⟨hk.1.1, hk.1.2⟩)), fun _ h1_ => absurd ((up_self b 5).symm.trans h1_) (by decide), fun _ => GW232.out, fun _ => GE232.out, fun _ => NB220_232.out, fun _ => NB232_220.out, fun _ => NB221_232.out, fun _ => NB232_221.out, fun _ => NB222_232.out, fun _ => NB232_222.out, fun _ => (by (with_reducible repeat (first | refine blk_drewN ?_ _ | refine blk_drew ?_ | refine blk_alloc ?_ _)); refine blk_put (cs := #[.int .i64 t228, .int .i64 t229, .bool t230, .int .i64 0]) ?_ 3 _ rfl; (with_reducible repeat (first | refine blk_drewN ?_ _ | refine blk_drew ?_ | refine blk_alloc ?_ _)); refine blk_put (cs := #[.int .i64 t228, .int .i64 t229, .bool false, .int .i64 0]) ?_ 2 _ rfl; (with_reducible repeat (first | refine blk_drewN ?_ _ | refine blk_drew ?_ | refine blk_alloc ?_ _)); refine blk_put (cs := #[.int .i64 t228, .int .i64 0, .bool false, .int .i64 0]) ?_ 1 _ rfl; (with_reducible repeat (first | refine blk_drewN ?_ _ | refine blk_drew ?_ | refine blk_alloc ?_ _)); refine blk_put (cs := #[.int .i64 0, .int .i64 0, .bool false, .int .i64 0]) ?_ 0 _ rfl; (with_reducible repeat (first | refine blk_drewN ?_ _ | refine blk_drew ?_ | refine blk_alloc ?_ _)); exact BK232.out), Q_X4_⟩
      exact steps_nil
     rintro b a w38 hall ⟨v226, gb232, m4_, ha, Q_BK220, Q_BK221, Q_BK222, Q_HB, Q_HO227, Q_BK232, Q_GW232, Q_GE232, Q_NB220_232, Q_NB232_220, Q_NB221_232, Q_NB232_221, Q_NB222_232, Q_NB232_222, Q_BK232_e5, Q_X4_⟩
     clear BK220 BK221 BK222 HB
     have hb0_ := hall 0 (by kernel_rfl)
     have hb1_ := hall 1 (by kernel_rfl)
     have hb2_ := hall 2 (by kernel_rfl)
     have hb3_ := hall 3 (by kernel_rfl)
     have hb4_ := hall 4 (by kernel_rfl)
     have hb5_ := hall 5 (by kernel_rfl)
     subst ha
     obtain rfl := Q_X4_ hb4_
     simp only [putSel, hb0_, hb1_, hb2_, hb3_, hb4_, hb5_, if_true, Act.put, List.setIfInBounds_toArray, List.set_cons_zero, List.set_cons_succ]
     have BK220 := Aside0.mk Q_BK220
     clear Q_BK220
     have BK221 := Aside0.mk Q_BK221
     clear Q_BK221
     have BK222 := Aside0.mk Q_BK222
     clear Q_BK222
     have HB := Aside0.mk Q_HB
     clear Q_HB
     have HO227 := Aside0.mk (Q_HO227 hb2_)
     clear Q_HO227
     clear Q_BK232
     have GW232 := Aside0.mk (Q_GW232 hb4_)
     clear Q_GW232
     have GE232 := Aside0.mk (Q_GE232 hb4_)
     clear Q_GE232
     have NB220_232 := Aside0.mk (Q_NB220_232 hb4_)
     clear Q_NB220_232
     have NB232_220 := Aside0.mk (Q_NB232_220 hb4_)
     clear Q_NB232_220
     have NB221_232 := Aside0.mk (Q_NB221_232 hb4_)
     clear Q_NB221_232
     have NB232_221 := Aside0.mk (Q_NB232_221 hb4_)
     clear Q_NB232_221
     have NB222_232 := Aside0.mk (Q_NB222_232 hb4_)
     clear Q_NB222_232
     have NB232_222 := Aside0.mk (Q_NB232_222 hb4_)
     clear Q_NB232_222
     have BK232 := Aside0.mk (Q_BK232_e5 hb5_)
     clear Q_BK232_e5
     clear hall hb0_ hb1_ hb2_ hb3_ hb4_ hb5_
     have hnb39 := NB221_220.out
     have hnc39 := NB220_221.out
     have hnb40 := NB221_222.out
     have hnc40 := NB222_221.out
     have hnb41 := NB221_232.out
     have hnc41 := NB232_221.out
     have hcz42_0 : w38.cell? ⟨gb221, 0, none⟩ = some (.int .i64 a1_0) := (blk_cell BK221.out 0).trans rfl
     have hcz42_1 : w38.cell? ⟨gb221, 1, none⟩ = some (.int .i64 a1_1) := (blk_cell BK221.out 1).trans rfl
     have hfz42_0 := blk_frozen BK221.out 0
     have hfz42_1 := blk_frozen BK221.out 1
     try go_wp2_with (((with_reducible refine gate_callee (f := 57) rfl ?_); refine goesL_ (some 20) rfl rfl Try.func57 (by kernel_rfl) rfl #[.agg #[.int .i64 a1_0, .int .i64 a1_1], .int .i64 0] rfl (by (try simp only [List.map_toArray, List.map_cons, List.map_nil]); first | done | rfl | (simp only [List.length_drop, List.length_take]; rfl)) ?_; (with_reducible refine (spec_IvHas.calls a1_0 a1_1 0 true _ A27.out).mono ?_); rintro e w43 ⟨rfl, hb⟩; refine ⟨_, rfl, ?_⟩; replace HO227 := Aside0.mk (Kd.R_below (by (with_reducible repeat (first | apply Kd.R_alloc | apply Kd.R_drewN | apply Kd.R_drew)); exact HO227.out) hb); replace BK220 := bb BK220 hb; replace BK221 := bb BK221 hb; replace BK222 := bb BK222 hb; replace BK232 := bb BK232 hb; replace HB := bs HB hb; (try clear hb); (try clear hb2); (try clear hk); (try clear hi); have hnb44 := NB232_220.out; have hnc44 := NB220_232.out; have hnb45 := NB232_222.out; have hnc45 := NB222_232.out; have hcz46_0 : w43.cell? ⟨gb232, 0, none⟩ = some (.int .i64 t228) := (blk_cell BK232.out 0).trans rfl; have hcz46_1 : w43.cell? ⟨gb232, 1, none⟩ = some (.int .i64 t229) := (blk_cell BK232.out 1).trans rfl; have hcz46_2 : w43.cell? ⟨gb232, 2, none⟩ = some (.bool t230) := (blk_cell BK232.out 2).trans rfl; have hcz46_3 : w43.cell? ⟨gb232, 3, none⟩ = some (.int .i64 t231) := (blk_cell BK232.out 3).trans rfl; have hfz46_0 := blk_frozen BK232.out 0; have hfz46_1 := blk_frozen BK232.out 1; have hfz46_2 := blk_frozen BK232.out 2; have hfz46_3 := blk_frozen BK232.out 3; have hnb47 := NB222_220.out; have hnc47 := NB220_222.out; have hcz48_0 : w43.cell? ⟨gb222, 0, none⟩ = some (.int .i64 0) := (blk_cell BK222.out 0).trans rfl; have hcz48_1 : w43.cell? ⟨gb222, 1, none⟩ = some (.int .i64 0) := (blk_cell BK222.out 1).trans rfl; have hcz48_2 : w43.cell? ⟨gb222, 2, none⟩ = some (.bool false) := (blk_cell BK222.out 2).trans rfl; have hcz48_3 : w43.cell? ⟨gb222, 3, none⟩ = some (.int .i64 0) := (blk_cell BK222.out 3).trans rfl; have hfz48_0 := blk_frozen BK222.out 0; have hfz48_1 := blk_frozen BK222.out 1; have hfz48_2 := blk_frozen BK222.out 2; have hfz48_3 := blk_frozen BK222.out 3))
     refine bodyPost_ret (results_cell_row rfl _ _ gb222 28 #[.int .i64 t228, .int .i64 t229, .bool t230, .int .i64 (Go.bits .or .i64 t231 1)] (0, 0) _ rfl (by (with_reducible repeat (first | refine blk_drewN ?_ _ | refine blk_drew ?_ | refine blk_alloc ?_ _)); refine blk_put (cs := #[.int .i64 t228, .int .i64 t229, .bool t230, .int .i64 0]) ?_ 3 _ rfl; (with_reducible repeat (first | refine blk_drewN ?_ _ | refine blk_drew ?_ | refine blk_alloc ?_ _)); refine blk_put (cs := #[.int .i64 t228, .int .i64 t229, .bool false, .int .i64 0]) ?_ 2 _ rfl; (with_reducible repeat (first | refine blk_drewN ?_ _ | refine blk_drew ?_ | refine blk_alloc ?_ _)); refine blk_put (cs := #[.int .i64 t228, .int .i64 0, .bool false, .int .i64 0]) ?_ 1 _ rfl; (with_reducible repeat (first | refine blk_drewN ?_ _ | refine blk_drew ?_ | refine blk_alloc ?_ _)); refine blk_put (cs := #[.int .i64 0, .int .i64 0, .bool false, .int .i64 0]) ?_ 0 _ rfl; (with_reducible repeat (first | refine blk_drewN ?_ _ | refine blk_drew ?_ | refine blk_alloc ?_ _)); refine blk_far ?_ NB222_232.out _; (with_reducible repeat (first | refine blk_drewN ?_ _ | refine blk_drew ?_ | refine blk_alloc ?_ _)); exact BK222.out) Try.underlying28 rfl (by kernel_rfl)) rfl ?_
     exact ⟨by first | rfl | (simp [errW_none, errW_some] <;> rfl) | (simp [*, errW_none, errW_some] <;> rfl), bw HB⟩
    ·replace c28 := Bool.eq_false_iff.mpr c28
     subst c28
     have H1 : (some (t228, t229, t230, t231)) = some (r1, r2, r3, r4) := by rw [if_neg (show ¬ (false = true) by decide)] at H; exact H
     clear H
     have H := H1
     clear H1
     simp only [Option.some.injEq, Prod.mk.injEq] at H
     obtain ⟨rfl, rfl, rfl, rfl⟩ := H
     try go_wp2
     have n0_ := Aside0.mk (blk_drew BK220.out)
     have n1_ := Aside0.mk (blk_drew BK221.out)
     have n2_ := Aside0.mk (blk_drew BK222.out)
     have n3_ := Aside0.mk (below_drew1 HB.out)
     clear BK220
     clear BK221
     clear BK222
     clear HB
     have BK220 := n0_
     have BK221 := n1_
     have BK222 := n2_
     have HB := n3_
     clear n0_ n1_ n2_ n3_
     refine start_ (n := 6) (S := fun w' => True) (ds := []) #[false, false, false, false, false, false] (by kernel_rfl) rfl rfl trivial (fun hHeld => ?_); refine with_tabW spec_IvQuo.tab3 spec_IvQuo.bits3 (fun HT_ HW_ => ?_)
     generalize wc.drew = w49 at BK220 BK221 BK222 HB hHeld ⊢
     refine inv_at [0, 1, 2, 3, 4, 5] (fun a0_ b a w' => ∃ (v226 : Value) (gb232 : Nat) (m4_ : Value), a = putSel a0_ b [(0, 15, .agg #[.int .i64 a0_0, .int .i64 a0_1]), (1, 16, .agg #[.int .i64 a1_0, .int .i64 a1_1]), (2, 17, v226), (3, 18, .agg #[.int .i64 t228, .int .i64 t229, .bool t230, .int .i64 t231]), (4, 5, m4_)] ∧ (w'.heap[gb220]? = some (.cells #[.int .i64 a0_0, .int .i64 a0_1] 25 (0, 0))) ∧ (w'.heap[gb221]? = some (.cells #[.int .i64 a1_0, .int .i64 a1_1] 25 (0, 0))) ∧ (w'.heap[gb222]? = some (.cells #[.int .i64 0, .int .i64 0, .bool false, .int .i64 0] 28 (0, 0))) ∧ (Below w.heap.size w w') ∧ (b 2 = true → Kd.R k25 25 w' w.heap.size (fun k_ => k_ ≠ gb220 ∧ k_ ≠ gb221) v226 t225) ∧ (b 4 = true → b 5 = false → w'.heap[gb232]? = some (.cells #[.int .i64 0, .int .i64 0, .bool false, .int .i64 0] 28 (0, 0))) ∧ (b 4 = true → w.heap.size ≤ gb232) ∧ (b 4 = true → w.heap.size ≤ gb232) ∧ (b 4 = true → gb220 ≠ gb232) ∧ (b 4 = true → gb232 ≠ gb220) ∧ (b 4 = true → gb221 ≠ gb232) ∧ (b 4 = true → gb232 ≠ gb221) ∧ (b 4 = true → gb222 ≠ gb232) ∧ (b 4 = true → gb232 ≠ gb222) ∧ (b 5 = true → w'.heap[gb232]? = some (.cells #[.int .i64 t228, .int .i64 t229, .bool t230, .int .i64 t231] 28 (0, 0))) ∧ (b 4 = true → (m4_ : Value) = .pointer (some ⟨gb232, 0, none⟩))) HT_.out HW_.out (by kernel_rfl) (by kernel_rfl) ?_ ?_ ?_
     ·exact ⟨.bool false, 0, .bool false, by simp only [putSel, Bool.false_eq_true, if_false], BK220.out, BK221.out, BK222.out, HB.out, fun h_ => absurd h_ (by decide), fun h_ => absurd h_ (by decide), fun h_ => absurd h_ (by decide), fun h_ => absurd h_ (by decide), fun h_ => absurd h_ (by decide), fun h_ => absurd h_ (by decide), fun h_ => absurd h_ (by decide), fun h_ => absurd h_ (by decide), fun h_ => absurd h_ (by decide), fun h_ => absurd h_ (by decide), fun h_ => absurd h_ (by decide), fun h_ => absurd h_ (by decide)⟩
     ·skip
      clear BK220 BK221 BK222 HB
      refine steps_cons ?_ ?_
      ·rintro b a w' ⟨v226, gb232, m4_, ha, Q_BK220, Q_BK221, Q_BK222, Q_HB, Q_HO227, Q_BK232, Q_GW232, Q_GE232, Q_NB220_232, Q_NB232_220, Q_NB221_232, Q_NB232_221, Q_NB222_232, Q_NB232_222, Q_BK232_e5, Q_X4_⟩ hb_ hon hoff
       refine ⟨_, rfl, fun K hK => ?_⟩
       have e2 : a.tmps[2]? = some (.pointer (some ⟨gb220, 0, none⟩)) := by rw [ha]; exact (putSel_off rfl).trans rfl
       replace ha := Aside0.mk ha
       have BK220 := Aside0.mk Q_BK220
       have BK221 := Aside0.mk Q_BK221
       have BK222 := Aside0.mk Q_BK222
       have HB := Aside0.mk Q_HB
       have hc0_ : w'.cell? ⟨gb220, 0, none⟩ = some (.int .i64 a0_0) := (blk_cell BK220.out 0).trans rfl
       have hc1_ : w'.cell? ⟨gb220, 1, none⟩ = some (.int .i64 a0_1) := (blk_cell BK220.out 1).trans rfl
       refine value_ (w1 := w') (v := .agg #[.int .i64 a0_0, .int .i64 a0_1]) (by rfl) rfl ?_ ?_
       ·go_simp
        (try simp only [i64_w])
        try rfl
       refine hK.out _ _ ⟨v226, gb232, m4_, (by rw [ha.out]; exact putSel_upk 0 hb_ rfl rfl rfl), Q_BK220, Q_BK221, Q_BK222, Q_HB, Q_HO227, Q_BK232, Q_GW232, Q_GE232, Q_NB220_232, Q_NB232_220, Q_NB221_232, Q_NB232_221, Q_NB222_232, Q_NB232_222, fun h0_ => absurd ((hoff 5 (by kernel_rfl)).symm.trans h0_) (by decide), Q_X4_⟩
      refine steps_cons ?_ ?_
      ·rintro b a w' ⟨v226, gb232, m4_, ha, Q_BK220, Q_BK221, Q_BK222, Q_HB, Q_HO227, Q_BK232, Q_GW232, Q_GE232, Q_NB220_232, Q_NB232_220, Q_NB221_232, Q_NB232_221, Q_NB222_232, Q_NB232_222, Q_BK232_e5, Q_X4_⟩ hb_ hon hoff
       refine ⟨_, rfl, fun K hK => ?_⟩
       have e3 : a.tmps[3]? = some (.pointer (some ⟨gb221, 0, none⟩)) := by rw [ha]; exact (putSel_off rfl).trans rfl
       replace ha := Aside0.mk ha
       have BK220 := Aside0.mk Q_BK220
       have BK221 := Aside0.mk Q_BK221
       have BK222 := Aside0.mk Q_BK222
       have HB := Aside0.mk Q_HB
       have hc0_ : w'.cell? ⟨gb221, 0, none⟩ = some (.int .i64 a1_0) := (blk_cell BK221.out 0).trans rfl
       have hc1_ : w'.cell? ⟨gb221, 1, none⟩ = some (.int .i64 a1_1) := (blk_cell BK221.out 1).trans rfl
       refine value_ (w1 := w') (v := .agg #[.int .i64 a1_0, .int .i64 a1_1]) (by rfl) rfl ?_ ?_
       ·go_simp
        (try simp only [i64_w])
        try rfl
       refine hK.out _ _ ⟨v226, gb232, m4_, (by rw [ha.out]; exact putSel_upk 1 hb_ rfl rfl rfl), Q_BK220, Q_BK221, Q_BK222, Q_HB, fun h0_ => absurd ((hoff 2 (by kernel_rfl)).symm.trans h0_) (by decide), Q_BK232, Q_GW232, Q_GE232, Q_NB220_232, Q_NB232_220, Q_NB221_232, Q_NB232_221, Q_NB222_232, Q_NB232_222, fun h0_ => absurd ((hoff 5 (by kernel_rfl)).symm.trans h0_) (by decide), Q_X4_⟩
      refine steps_cons ?_ ?_
      ·rintro b a w' ⟨v226, gb232, m4_, ha, Q_BK220, Q_BK221, Q_BK222, Q_HB, Q_HO227, Q_BK232, Q_GW232, Q_GE232, Q_NB220_232, Q_NB232_220, Q_NB221_232, Q_NB232_221, Q_NB222_232, Q_NB232_222, Q_BK232_e5, Q_X4_⟩ hb_ hon hoff
       refine ⟨_, rfl, fun K hK => ?_⟩
       have e16 : a.tmps[16]? = some (.agg #[.int .i64 a1_0, .int .i64 a1_1]) := by rw [ha]; exact putSel_on (e := (1, 16, .agg #[.int .i64 a1_0, .int .i64 a1_1])) 1 rfl rfl (hon 1 (by kernel_rfl)) rfl
       replace ha := Aside0.mk ha
       have BK220 := Aside0.mk Q_BK220
       have BK221 := Aside0.mk Q_BK221
       have BK222 := Aside0.mk Q_BK222
       have HB := Aside0.mk Q_HB
       refine goes_ Try.func56 (by kernel_rfl) rfl #[.agg #[.int .i64 a1_0, .int .i64 a1_1]] (by rfl) rfl rfl (by first | (simp only [List.map_toArray, List.map_cons, List.map_nil, Act.eval, Array.getD_eq_getD_getElem?, Option.getD_some, e16]; done) | (simp only [List.map_toArray, List.map_cons, List.map_nil, Act.eval, Array.getD_eq_getD_getElem?, Option.getD_some, e16]; rfl)) ?_
       with_reducible refine (spec_l2Parts.calls a1_0 a1_1 t225 _ A25.out).mono ?_
       rintro e w50 ⟨v226, rfl, ho0, hb⟩
       refine ⟨_, rfl, ?_⟩
       have n0_ := Aside0.mk (Kd.R_lower (Kd.R_newB (Kd.R_newB ho0 (bk BK220)) (bk BK221)) (below_size (bw HB)))
       have n1_ := bb BK220 hb
       have n2_ := bb BK221 hb
       have n3_ := bb BK222 hb
       have n4_ := bs HB hb
       have z_BK232 := fun (h0_ : b 4 = true) (h1_ : b 5 = false) => (show w50.heap[gb232]? = some (.cells #[.int .i64 0, .int .i64 0, .bool false, .int .i64 0] 28 (0, 0)) from by first | exact (blk_below (g := gb232) (o := .cells #[.int .i64 0, .int .i64 0, .bool false, .int .i64 0] 28 (0, 0)) (by (with_reducible repeat (first | refine blk_drewN ?_ _ | refine blk_drew ?_ | refine blk_alloc ?_ _)); exact (Q_BK232 h0_ h1_)) hb))
       clear BK220
       clear BK221
       clear BK222
       clear HB
       have HO227 := n0_
       have BK220 := n1_
       have BK221 := n2_
       have BK222 := n3_
       have HB := n4_
       clear n0_ n1_ n2_ n3_ n4_
       (try clear hb)
       (try clear hb2)
       (try clear hk)
       (try clear hi)
       (try clear ho0)
       refine hK.out _ _ ⟨v226, gb232, m4_, (by rw [ha.out]; exact putSel_upk 2 hb_ rfl rfl rfl), (bk BK220), (bk BK221), (bk BK222), (bw HB), fun _ => (by (with_reducible repeat (first | apply Kd.R_alloc | apply Kd.R_drewN | apply Kd.R_drew)); exact Kd.R_mono HO227.out (fun _ hk => ⟨hk.1.2, hk.2⟩)), z_BK232, Q_GW232, Q_GE232, Q_NB220_232, Q_NB232_220, Q_NB221_232, Q_NB232_221, Q_NB222_232, Q_NB232_222, fun h0_ => absurd ((hoff 5 (by kernel_rfl)).symm.trans h0_) (by decide), Q_X4_⟩
      refine steps_cons ?_ ?_
      ·rintro b a w' ⟨v226, gb232, m4_, ha, Q_BK220, Q_BK221, Q_BK222, Q_HB, Q_HO227, Q_BK232, Q_GW232, Q_GE232, Q_NB220_232, Q_NB232_220, Q_NB221_232, Q_NB232_221, Q_NB222_232, Q_NB232_222, Q_BK232_e5, Q_X4_⟩ hb_ hon hoff
       refine ⟨_, rfl, fun K hK => ?_⟩
       have e15 : a.tmps[15]? = some (.agg #[.int .i64 a0_0, .int .i64 a0_1]) := by rw [ha]; exact putSel_on (e := (0, 15, .agg #[.int .i64 a0_0, .int .i64 a0_1])) 0 rfl rfl (hon 0 (by kernel_rfl)) rfl
       have e17 : a.tmps[17]? = some (v226) := by rw [ha]; exact putSel_on (e := (2, 17, v226)) 2 rfl rfl (hon 2 (by kernel_rfl)) rfl
       replace ha := Aside0.mk ha
       have BK220 := Aside0.mk Q_BK220
       have BK221 := Aside0.mk Q_BK221
       have BK222 := Aside0.mk Q_BK222
       have HB := Aside0.mk Q_HB
       have HO227 := Aside0.mk (Q_HO227 (hon 2 (by kernel_rfl)))
       obtain ⟨Ao52, co52, eo52⟩ := Kd.R_slice HO227.out
       (first | subst eo52 | (injection eo52 with f1_ f2_ f3_; have f4_ := f1_.symm; have f5_ := f3_.symm; clear f1_ f2_ f3_; subst f4_; subst f5_))
       refine goes_ Try.func55 (by kernel_rfl) rfl #[.int .i64 47, .agg #[.int .i64 a0_0, .int .i64 a0_1], .slice Ao52 t225.length co52] (by rfl) rfl rfl (by first | (simp only [List.map_toArray, List.map_cons, List.map_nil, Act.eval, Array.getD_eq_getD_getElem?, Option.getD_some, e15, e17]; done) | (simp only [List.map_toArray, List.map_cons, List.map_nil, Act.eval, Array.getD_eq_getD_getElem?, Option.getD_some, e15, e17]; rfl)) ?_
       with_reducible refine (spec_l2Box.calls kj2 47 a0_0 a0_1 _ _ t225 t228 t229 t230 t231 _ ?side1 ?side2 A26.out).mono ?_
       (case side1 => repeat (first | exact (Kd.R_reads' HO227.out).2.2 | (with_reducible refine Kd.C_alloc ?_ _) | (with_reducible refine Kd.C_drewN ?_ _) | (with_reducible refine Kd.C_drew ?_)))
       (case side2 => exact (Kd.R_reads' HO227.out).2.1)
       rintro e w53 ⟨rfl, hb⟩
       refine ⟨_, rfl, ?_⟩
       have n0_ := Aside0.mk (Kd.R_below (by (with_reducible repeat (first | apply Kd.R_alloc | apply Kd.R_drewN | apply Kd.R_drew)); exact HO227.out) hb)
       have n1_ := bb BK220 hb
       have n2_ := bb BK221 hb
       have n3_ := bb BK222 hb
       have n4_ := bs HB hb
       have z_BK232 := fun (h0_ : b 4 = true) (h1_ : b 5 = false) => (show w53.heap[gb232]? = some (.cells #[.int .i64 0, .int .i64 0, .bool false, .int .i64 0] 28 (0, 0)) from by first | exact (blk_below (g := gb232) (o := .cells #[.int .i64 0, .int .i64 0, .bool false, .int .i64 0] 28 (0, 0)) (by (with_reducible repeat (first | refine blk_drewN ?_ _ | refine blk_drew ?_ | refine blk_alloc ?_ _)); exact (Q_BK232 h0_ h1_)) hb))
       clear HO227
       clear BK220
       clear BK221
       clear BK222
       clear HB
       have HO227 := n0_
       have BK220 := n1_
       have BK221 := n2_
       have BK222 := n3_
       have HB := n4_
       clear n0_ n1_ n2_ n3_ n4_
       (try clear hb)
       (try clear hb2)
       (try clear hk)
       (try clear hi)
       refine hK.out _ _ ⟨.slice Ao52 t225.length co52, gb232, m4_, (by rw [ha.out]; exact putSel_upk 3 hb_ rfl rfl rfl), (bk BK220), (bk BK221), (bk BK222), (bw HB), fun _ => (by (with_reducible repeat (first | apply Kd.R_alloc | apply Kd.R_drewN | apply Kd.R_drew)); exact HO227.out), z_BK232, Q_GW232, Q_GE232, Q_NB220_232, Q_NB232_220, Q_NB221_232, Q_NB232_221, Q_NB222_232, Q_NB232_222, fun h0_ => absurd ((hoff 5 (by kernel_rfl)).symm.trans h0_) (by decide), Q_X4_⟩
      refine steps_cons ?_ ?_
      ·rintro b a w' ⟨v226, gb232, m4_, ha, Q_BK220, Q_BK221, Q_BK222, Q_HB, Q_HO227, Q_BK232, Q_GW232, Q_GE232, Q_NB220_232, Q_NB232_220, Q_NB221_232, Q_NB232_221, Q_NB222_232, Q_NB232_222, Q_BK232_e5, Q_X4_⟩ hb_ hon hoff
       refine ⟨_, rfl, fun K hK => ?_⟩
       replace ha := Aside0.mk ha
       have BK220 := Aside0.mk Q_BK220
       have BK221 := Aside0.mk Q_BK221
       have BK222 := Aside0.mk Q_BK222
       have HB := Aside0.mk Q_HB
       refine box_step ?hg (N := 5) ?hd (cs := #[.int .i64 0, .int .i64 0, .bool false, .int .i64 0]) (t := 28) ?hr ?_; (case hd => rfl); (case hg => rfl); (case hr => first | (go_simp; done) | (go_simp; rfl))
       intro gb232 hg w50 hbox hb
       have n0_ := bb BK220 hb
       have n1_ := bb BK221 hb
       have n2_ := bb BK222 hb
       have n3_ := bs HB hb
       have n4_ := Aside0.mk (hbox)
       have n5_ := bz HB hg
       have n6_ := bz HB hg
       have n7_ := bl BK220 hg
       have n8_ := bg BK220 hg
       have n9_ := bl BK221 hg
       have n10_ := bg BK221 hg
       have n11_ := bl BK222 hg
       have n12_ := bg BK222 hg
       have z_HO227 := fun (h0_ : b 2 = true) => (show Kd.R k25 25 w50 w.heap.size (fun k_ => k_ ≠ gb220 ∧ k_ ≠ gb221) v226 t225 from by first | exact (Kd.R_below (by (with_reducible repeat (first | apply Kd.R_alloc | apply Kd.R_drewN | apply Kd.R_drew)); exact (Q_HO227 h0_)) hb) | exact Kd.R_mono (Kd.R_below (by (with_reducible repeat (first | apply Kd.R_alloc | apply Kd.R_drewN | apply Kd.R_drew)); exact (Q_HO227 h0_)) hb) (fun _ h_ => by first | trivial | exact h_ | exact h_.1))
       clear BK220
       clear BK221
       clear BK222
       clear HB
       have BK220 := n0_
       have BK221 := n1_
       have BK222 := n2_
       have HB := n3_
       have BK232 := n4_
       have GW232 := n5_
       have GE232 := n6_
       have NB220_232 := n7_
       have NB232_220 := n8_
       have NB221_232 := n9_
       have NB232_221 := n10_
       have NB222_232 := n11_
       have NB232_222 := n12_
       clear n0_ n1_ n2_ n3_ n4_ n5_ n6_ n7_ n8_ n9_ n10_ n11_ n12_
       clear hb hbox hg
       refine hK.out _ _ ⟨v226, gb232, (.pointer (some ⟨gb232, 0, none⟩)), (by rw [ha.out]; exact putSel_upk 4 hb_ rfl rfl rfl), (bk BK220), (bk BK221), (bk BK222), (bw HB), z_HO227, fun _ _ => (bk BK232), fun _ => GW232.out, fun _ => GE232.out, fun _ => NB220_232.out, fun _ => NB232_220.out, fun _ => NB221_232.out, fun _ => NB232_221.out, fun _ => NB222_232.out, fun _ => NB232_222.out, fun h0_ => absurd ((hoff 5 (by kernel_rfl)).symm.trans h0_) (by decide), fun _ => rfl⟩
      refine steps_cons ?_ ?_
      ·rintro b a w' ⟨v226, gb232, m4_, ha, Q_BK220, Q_BK221, Q_BK222, Q_HB, Q_HO227, Q_BK232, Q_GW232, Q_GE232, Q_NB220_232, Q_NB232_220, Q_NB221_232, Q_NB232_221, Q_NB222_232, Q_NB232_222, Q_BK232_e5, Q_X4_⟩ hb_ hon hoff
       refine ⟨_, rfl, fun K hK => ?_⟩
       have e5 : a.tmps[5]? = some (m4_) := by rw [ha]; exact putSel_on (e := (4, 5, m4_)) 4 rfl rfl (hon 4 (by kernel_rfl)) rfl
       rw [Q_X4_ (hon 4 (by kernel_rfl))] at e5
       have e18 : a.tmps[18]? = some (.agg #[.int .i64 t228, .int .i64 t229, .bool t230, .int .i64 t231]) := by rw [ha]; exact putSel_on (e := (3, 18, .agg #[.int .i64 t228, .int .i64 t229, .bool t230, .int .i64 t231])) 3 rfl rfl (hon 3 (by kernel_rfl)) rfl
       replace ha := Aside0.mk ha
       have BK220 := Aside0.mk Q_BK220
       have BK221 := Aside0.mk Q_BK221
       have BK222 := Aside0.mk Q_BK222
       have HB := Aside0.mk Q_HB
       have HO227 := Aside0.mk (Q_HO227 (hon 2 (by kernel_rfl)))
       have BK232 := Aside0.mk (Q_BK232 (hon 4 (by kernel_rfl)) hb_)
       have GW232 := Aside0.mk (Q_GW232 (hon 4 (by kernel_rfl)))
       have GE232 := Aside0.mk (Q_GE232 (hon 4 (by kernel_rfl)))
       have NB220_232 := Aside0.mk (Q_NB220_232 (hon 4 (by kernel_rfl)))
       have NB232_220 := Aside0.mk (Q_NB232_220 (hon 4 (by kernel_rfl)))
       have NB221_232 := Aside0.mk (Q_NB221_232 (hon 4 (by kernel_rfl)))
       have NB232_221 := Aside0.mk (Q_NB232_221 (hon 4 (by kernel_rfl)))
       have NB222_232 := Aside0.mk (Q_NB222_232 (hon 4 (by kernel_rfl)))
       have NB232_222 := Aside0.mk (Q_NB232_222 (hon 4 (by kernel_rfl)))
       have hs55 : w'.cell? ⟨gb232, 0, none⟩ = some (.int .i64 0) := (blk_cell BK232.out 0).trans rfl
       have hfs55 := blk_frozen BK232.out 0
       have hns55_0 := NB220_232.out
       have hns55_1 := NB221_232.out
       have hns55_2 := NB222_232.out
       have hms55_0 := NB232_220.out
       have hms55_1 := NB232_221.out
       have hms55_2 := NB232_222.out
       have hs56 : w'.cell? ⟨gb232, 1, none⟩ = some (.int .i64 0) := (blk_cell BK232.out 1).trans rfl
       have hfs56 := blk_frozen BK232.out 1
       have hns56_0 := NB220_232.out
       have hns56_1 := NB221_232.out
       have hns56_2 := NB222_232.out
       have hms56_0 := NB232_220.out
       have hms56_1 := NB232_221.out
       have hms56_2 := NB232_222.out
       have hs57 : w'.cell? ⟨gb232, 2, none⟩ = some (.bool false) := (blk_cell BK232.out 2).trans rfl
       have hfs57 := blk_frozen BK232.out 2
       have hns57_0 := NB220_232.out
       have hns57_1 := NB221_232.out
       have hns57_2 := NB222_232.out
       have hms57_0 := NB232_220.out
       have hms57_1 := NB232_221.out
       have hms57_2 := NB232_222.out
       have hs58 : w'.cell? ⟨gb232, 3, none⟩ = some (.int .i64 0) := (blk_cell BK232.out 3).trans rfl
       have hfs58 := blk_frozen BK232.out 3
       have hns58_0 := NB220_232.out
       have hns58_1 := NB221_232.out
       have hns58_2 := NB222_232.out
       have hms58_0 := NB232_220.out
       have hms58_1 := NB232_221.out
       have hms58_2 := NB232_222.out
       refine skip_ (w1 := ?_) (by rfl) rfl ?_ ?_
       rotate_left
       ·go_simp
        rfl
       refine hK.out _ _ ⟨v226, gb232, m4_, (by rw [ha.out]; exact putSel_none (v := undef) rfl), (bx BK220), (bx BK221), (bx BK222), (bw HB), fun _ => (by (with_reducible repeat (first | apply Kd.R_alloc | apply Kd.R_drewN | apply Kd.R_drew)); exact Kd.R_mono (Kd.R_far (p := ⟨gb232, 3, none⟩) (Kd.R_far (p := ⟨gb232, 2, none⟩) (Kd.R_far (p := ⟨gb232, 1, none⟩) (Kd.R_far (p := ⟨gb232, 0, none⟩) (Kd.R_types HO227.out BK232.out (by decide)) (fun _ hk => hk.2) (.int .i64 t228)) (fun _ hk => hk.2) (.int .i64 t229)) (fun _ hk => hk.2) (.bool t230)) (fun _ hk => hk.2) (.int .i64 t231)) (fun _ hk => ⟨hk.1.1, hk.1.2⟩)), fun _ h1_ => absurd ((up_self b 5).symm.trans h1_) (by decide), fun _ => GW232.out, fun _ => GE232.out, fun _ => NB220_232.out, fun _ => NB232_220.out, fun _ => NB221_232.out, fun _ => NB232_221.out, fun _ => NB222_232.out, fun _ => NB232_222.out, fun _ => (by (with_reducible repeat (first | refine blk_drewN ?_ _ | refine blk_drew ?_ | refine blk_alloc ?_ _)); refine blk_put (cs := #[.int .i64 t228, .int .i64 t229, .bool t230, .int .i64 0]) ?_ 3 _ rfl; (with_reducible repeat (first | refine blk_drewN ?_ _ | refine blk_drew ?_ | refine blk_alloc ?_ _)); refine blk_put (cs := #[.int .i64 t228, .int .i64 t229, .bool false, .int .i64 0]) ?_ 2 _ rfl; (with_reducible repeat (first | refine blk_drewN ?_ _ | refine blk_drew ?_ | refine blk_alloc ?_ _)); refine blk_put (cs := #[.int .i64 t228, .int .i64 0, .bool false, .int .i64 0]) ?_ 1 _ rfl; (with_reducible repeat (first | refine blk_drewN ?_ _ | refine blk_drew ?_ | refine blk_alloc ?_ _)); refine blk_put (cs := #[.int .i64 0, .int .i64 0, .bool false, .int .i64 0]) ?_ 0 _ rfl; (with_reducible repeat (first | refine blk_drewN ?_ _ | refine blk_drew ?_ | refine blk_alloc ?_ _)); exact BK232.out), Q_X4_⟩
      exact steps_nil
     rintro b a w58 hall ⟨v226, gb232, m4_, ha, Q_BK220, Q_BK221, Q_BK222, Q_HB, Q_HO227, Q_BK232, Q_GW232, Q_GE232, Q_NB220_232, Q_NB232_220, Q_NB221_232, Q_NB232_221, Q_NB222_232, Q_NB232_222, Q_BK232_e5, Q_X4_⟩
     clear BK220 BK221 BK222 HB
     have hb0_ := hall 0 (by kernel_rfl)
     have hb1_ := hall 1 (by kernel_rfl)
     have hb2_ := hall 2 (by kernel_rfl)
     have hb3_ := hall 3 (by kernel_rfl)
     have hb4_ := hall 4 (by kernel_rfl)
     have hb5_ := hall 5 (by kernel_rfl)
     subst ha
     obtain rfl := Q_X4_ hb4_
     simp only [putSel, hb0_, hb1_, hb2_, hb3_, hb4_, hb5_, if_true, Act.put, List.setIfInBounds_toArray, List.set_cons_zero, List.set_cons_succ]
     have BK220 := Aside0.mk Q_BK220
     clear Q_BK220
     have BK221 := Aside0.mk Q_BK221
     clear Q_BK221
     have BK222 := Aside0.mk Q_BK222
     clear Q_BK222
     have HB := Aside0.mk Q_HB
     clear Q_HB
     have HO227 := Aside0.mk (Q_HO227 hb2_)
     clear Q_HO227
     clear Q_BK232
     have GW232 := Aside0.mk (Q_GW232 hb4_)
     clear Q_GW232
     have GE232 := Aside0.mk (Q_GE232 hb4_)
     clear Q_GE232
     have NB220_232 := Aside0.mk (Q_NB220_232 hb4_)
     clear Q_NB220_232
     have NB232_220 := Aside0.mk (Q_NB232_220 hb4_)
     clear Q_NB232_220
     have NB221_232 := Aside0.mk (Q_NB221_232 hb4_)
     clear Q_NB221_232
     have NB232_221 := Aside0.mk (Q_NB232_221 hb4_)
     clear Q_NB232_221
     have NB222_232 := Aside0.mk (Q_NB222_232 hb4_)
     clear Q_NB222_232
     have NB232_222 := Aside0.mk (Q_NB232_222 hb4_)
     clear Q_NB232_222
     have BK232 := Aside0.mk (Q_BK232_e5 hb5_)
     clear Q_BK232_e5
     clear hall hb0_ hb1_ hb2_ hb3_ hb4_ hb5_
     have hnb59 := NB221_220.out
     have hnc59 := NB220_221.out
     have hnb60 := NB221_222.out
     have hnc60 := NB222_221.out
     have hnb61 := NB221_232.out
     have hnc61 := NB232_221.out
     have hcz62_0 : w58.cell? ⟨gb221, 0, none⟩ = some (.int .i64 a1_0) := (blk_cell BK221.out 0).trans rfl
     have hcz62_1 : w58.cell? ⟨gb221, 1, none⟩ = some (.int .i64 a1_1) := (blk_cell BK221.out 1).trans rfl
     have hfz62_0 := blk_frozen BK221.out 0
     have hfz62_1 := blk_frozen BK221.out 1
     try go_wp2_with (((with_reducible refine gate_callee (f := 57) rfl ?_); refine goesL_ (some 20) rfl rfl Try.func57 (by kernel_rfl) rfl #[.agg #[.int .i64 a1_0, .int .i64 a1_1], .int .i64 0] rfl (by (try simp only [List.map_toArray, List.map_cons, List.map_nil]); first | done | rfl | (simp only [List.length_drop, List.length_take]; rfl)) ?_; (with_reducible refine (spec_IvHas.calls a1_0 a1_1 0 false _ A27.out).mono ?_); rintro e w63 ⟨rfl, hb⟩; refine ⟨_, rfl, ?_⟩; replace HO227 := Aside0.mk (Kd.R_below (by (with_reducible repeat (first | apply Kd.R_alloc | apply Kd.R_drewN | apply Kd.R_drew)); exact HO227.out) hb); replace BK220 := bb BK220 hb; replace BK221 := bb BK221 hb; replace BK222 := bb BK222 hb; replace BK232 := bb BK232 hb; replace HB := bs HB hb; (try clear hb); (try clear hb2); (try clear hk); (try clear hi); have hnb64 := NB232_220.out; have hnc64 := NB220_232.out; have hnb65 := NB232_222.out; have hnc65 := NB222_232.out; have hcz66_0 : w63.cell? ⟨gb232, 0, none⟩ = some (.int .i64 t228) := (blk_cell BK232.out 0).trans rfl; have hcz66_1 : w63.cell? ⟨gb232, 1, none⟩ = some (.int .i64 t229) := (blk_cell BK232.out 1).trans rfl; have hcz66_2 : w63.cell? ⟨gb232, 2, none⟩ = some (.bool t230) := (blk_cell BK232.out 2).trans rfl; have hcz66_3 : w63.cell? ⟨gb232, 3, none⟩ = some (.int .i64 t231) := (blk_cell BK232.out 3).trans rfl; have hfz66_0 := blk_frozen BK232.out 0; have hfz66_1 := blk_frozen BK232.out 1; have hfz66_2 := blk_frozen BK232.out 2; have hfz66_3 := blk_frozen BK232.out 3; have hnb67 := NB222_220.out; have hnc67 := NB220_222.out; have hcz68_0 : w63.cell? ⟨gb222, 0, none⟩ = some (.int .i64 0) := (blk_cell BK222.out 0).trans rfl; have hcz68_1 : w63.cell? ⟨gb222, 1, none⟩ = some (.int .i64 0) := (blk_cell BK222.out 1).trans rfl; have hcz68_2 : w63.cell? ⟨gb222, 2, none⟩ = some (.bool false) := (blk_cell BK222.out 2).trans rfl; have hcz68_3 : w63.cell? ⟨gb222, 3, none⟩ = some (.int .i64 0) := (blk_cell BK222.out 3).trans rfl; have hfz68_0 := blk_frozen BK222.out 0; have hfz68_1 := blk_frozen BK222.out 1; have hfz68_2 := blk_frozen BK222.out 2; have hfz68_3 := blk_frozen BK222.out 3))
     refine bodyPost_ret (results_cell_row rfl _ _ gb222 28 #[.int .i64 t228, .int .i64 t229, .bool t230, .int .i64 t231] (0, 0) _ rfl (by (with_reducible repeat (first | refine blk_drewN ?_ _ | refine blk_drew ?_ | refine blk_alloc ?_ _)); refine blk_put (cs := #[.int .i64 t228, .int .i64 t229, .bool t230, .int .i64 0]) ?_ 3 _ rfl; (with_reducible repeat (first | refine blk_drewN ?_ _ | refine blk_drew ?_ | refine blk_alloc ?_ _)); refine blk_put (cs := #[.int .i64 t228, .int .i64 t229, .bool false, .int .i64 0]) ?_ 2 _ rfl; (with_reducible repeat (first | refine blk_drewN ?_ _ | refine blk_drew ?_ | refine blk_alloc ?_ _)); refine blk_put (cs := #[.int .i64 t228, .int .i64 0, .bool false, .int .i64 0]) ?_ 1 _ rfl; (with_reducible repeat (first | refine blk_drewN ?_ _ | refine blk_drew ?_ | refine blk_alloc ?_ _)); refine blk_put (cs := #[.int .i64 0, .int .i64 0, .bool false, .int .i64 0]) ?_ 0 _ rfl; (with_reducible repeat (first | refine blk_drewN ?_ _ | refine blk_drew ?_ | refine blk_alloc ?_ _)); exact BK222.out) Try.underlying28 rfl (by kernel_rfl)) rfl ?_
     exact ⟨by first | rfl | (simp [errW_none, errW_some] <;> rfl) | (simp [*, errW_none, errW_some] <;> rfl), bw HB⟩

end Go.Proofs.Ytdjhalelgknnkaa.Q
