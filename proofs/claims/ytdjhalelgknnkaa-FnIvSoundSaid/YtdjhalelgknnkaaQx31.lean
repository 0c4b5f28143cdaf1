-- Contracts of the program's functions, each with the plain function that it computes.
import Derived.Test.YtdjhalelgknnkaaQx0
import Derived.Test.YtdjhalelgknnkaaQx11
import Derived.Test.YtdjhalelgknnkaaQx18
import Derived.Test.YtdjhalelgknnkaaQx29
import Derived.Test.YtdjhalelgknnkaaQx30
namespace Go.Proofs.Ytdjhalelgknnkaa.Q
open Go.RowKit Go.Proofs.YtdjhalelgknnkaaW.PrintWords Go.Proofs.YtdjhalelgknnkaaW.PrintLast Go.Proofs.YtdjhalelgknnkaaW.PrintMore
attribute [local go_sem] max2_int min2_int max_two min_two max_three min_three max_four min_four   -- for this text's walks alone
set_option linter.unusedVariables false
set_option linter.unusedSimpArgs false

/-! ### spec_IvQuo: function 34 -/
def spec_IvQuo.j0 : Nat → Bool → Int → Int → Int → Int → Option (Int × Int × Bool × Int)
 | 0, _, _, _, _, _ => none
 | k + 1, x13, x266000, x266001, x267000, x267001 => if x13 = true then (some (0, 0, false, 0)) else ((spec_l2Parts.f x267000 x267001).bind fun t270 => ((spec_l2Box.f k 47 x266000 x266001 t270).bind fun bt273 => ((spec_IvHas.f x267000 x267001 0).bind fun t278 => (if t278 = true then (some (bt273.1, bt273.2.1, bt273.2.2.1, Go.bits .or .i64 bt273.2.2.2 1)) else (some (bt273.1, bt273.2.1, bt273.2.2.1, bt273.2.2.2))))))
def spec_IvQuo.f (k : Nat) (a0_0 : Int) (a0_1 : Int) (a1_0 : Int) (a1_1 : Int) : Option (Int × Int × Bool × Int) := (spec_IvOk.f a0_0 a0_1).bind fun t268 => (if t268 = true then ((spec_IvOk.f a1_0 a1_1).bind fun t269 => (spec_IvQuo.j0 k (!t269) a0_0 a0_1 a1_0 a1_1)) else (spec_IvQuo.j0 k true a0_0 a0_1 a1_0 a1_1))
theorem spec_IvQuo.mono_l : ∀ k, (∀ y0 y1 y2 y3 y4, LeO (spec_IvQuo.j0 k y0 y1 y2 y3 y4) (spec_IvQuo.j0 (k + 1) y0 y1 y2 y3 y4))
 | 0 => fun _ _ _ _ _ r h => by simp [spec_IvQuo.j0] at h
 | k + 1 => by
  have ih0 := spec_IvQuo.mono_l k
  ·intro y0 y1 y2 y3 y4
   unfold spec_IvQuo.j0
   repeat' first
   | (with_reducible exact ih0 _ _ _ _ _)
   | (with_reducible exact spec_l2Box.mono _ _ _ _ _)
   | (with_reducible exact LeO.refl _)
   | (with_reducible exact LeO.none _)
   | (with_reducible refine LeO.ite ?_ ?_)
   | (with_reducible refine LeO.bind ?_ (fun _ => ?_))
   | exact ih0 _ _ _ _ _
   | exact spec_l2Box.mono _ _ _ _ _
   | exact LeO.none _
   | refine LeO.ite ?_ ?_
   | refine LeO.bind ?_ (fun _ => ?_)
theorem spec_IvQuo.mono : ∀ a0 a1 a2 a3 k, LeO (spec_IvQuo.f k a0 a1 a2 a3) (spec_IvQuo.f (k + 1) a0 a1 a2 a3) := by
 intro a0 a1 a2 a3 k
 have ih0 := spec_IvQuo.mono_l k
 unfold spec_IvQuo.f
 repeat' first
   | (with_reducible exact ih0 _ _ _ _ _)
   | (with_reducible exact spec_l2Box.mono _ _ _ _ _)
   | (with_reducible exact LeO.refl _)
   | (with_reducible exact LeO.none _)
   | (with_reducible refine LeO.ite ?_ ?_)
   | (with_reducible refine LeO.bind ?_ (fun _ => ?_))
   | exact ih0 _ _ _ _ _
   | exact spec_l2Box.mono _ _ _ _ _
   | exact LeO.none _
   | refine LeO.ite ?_ ?_
   | refine LeO.bind ?_ (fun _ => ?_)
set_option maxHeartbeats 8000000 in
set_option maxRecDepth 100000 in
theorem spec_IvQuo.calls (k : Nat) (a0_0 : Int) (a0_1 : Int) (a1_0 : Int) (a1_1 : Int) (r1 : Int) (r2 : Int) (r3 : Bool) (r4 : Int) (w : World) (h : spec_IvQuo.f k a0_0 a0_1 a1_0 a1_1 = some (r1, r2, r3, r4)) :
  Calls Try.prog 34 #[.agg #[.int .i64 a0_0, .int .i64 a0_1], .agg #[.int .i64 a1_0, .int .i64 a1_1]] w fun e w' => e = .returned (.agg #[.int .i64 r1, .int .i64 r2, .bool r3, .int .i64 r4]) ∧ Below w.heap.size w w' := by
 have hu25 := Try.underlying25
 have hu28 := Try.underlying28
 have HB := Aside0.mk (Below.refl w.heap.size w)
 have H : ((spec_IvOk.f a0_0 a0_1).bind fun t268 => (if t268 = true then ((spec_IvOk.f a1_0 a1_1).bind fun t269 => (spec_IvQuo.j0 k (!t269) a0_0 a0_1 a1_0 a1_1)) else (spec_IvQuo.j0 k true a0_0 a0_1 a1_0 a1_1))) = some (r1, r2, r3, r4) := h
 clear h
 have HC3 := Aside0.mk H
 clear H
 go_enter Try.func34, Try.ntmps34
 go_upto_region 1 with (first | ((with_reducible refine gate_dst (N := 2) rfl ?_); refine box_event rfl rfl (cs := #[.int .i64 a0_0, .int .i64 a0_1]) (t := 25) (by first | (go_simp; done) | (go_simp; rfl)) ?_; intro gb265 hg w4 hbox hb; have BK265 := Aside0.mk (hbox); have GW265 := bz HB hg; have GE265 := bz HB hg; replace HB := bs HB hb; clear hb hbox hg) | ((with_reducible refine gate_dst (N := 3) rfl ?_); refine box_event rfl rfl (cs := #[.int .i64 a1_0, .int .i64 a1_1]) (t := 25) (by first | (go_simp; done) | (go_simp; rfl)) ?_; intro gb266 hg w5 hbox hb; have BK266 := Aside0.mk (hbox); have GW266 := bz HB hg; have GE266 := bz HB hg; replace HB := bs HB hb; have NB265_266 := bl BK265 hg; have NB266_265 := bg BK265 hg; replace BK265 := bb BK265 hb; clear hb hbox hg) | ((with_reducible refine gate_dst (N := 4) rfl ?_); refine box_event rfl rfl (cs := #[.int .i64 0, .int .i64 0, .bool false, .int .i64 0]) (t := 28) (by first | (go_simp; done) | (go_simp; rfl)) ?_; intro gb267 hg w6 hbox hb; have BK267 := Aside0.mk (hbox); have GW267 := bz HB hg; have GE267 := bz HB hg; replace HB := bs HB hb; have NB265_267 := bl BK265 hg; have NB267_265 := bg BK265 hg; replace BK265 := bb BK265 hb; have NB266_267 := bl BK266 hg; have NB267_266 := bg BK266 hg; replace BK266 := bb BK266 hb; clear hb hbox hg))
 (try simp only [Act.put, List.setIfInBounds_toArray, List.set_cons_zero, List.set_cons_succ])
 go_cut [13] (fun v13 wc => ∃ (kq : Nat) (x13_2 : Bool), v13 = .bool x13_2 ∧ Aside0 (spec_IvQuo.j0 kq x13_2 a0_0 a0_1 a1_0 a1_1 = some (r1, r2, r3, r4)) ∧ Aside0 (kq ≤ k) ∧ Aside0 (wc.heap[gb265]? = some (.cells #[.int .i64 a0_0, .int .i64 a0_1] 25 (0, 0))) ∧ Aside0 (wc.heap[gb266]? = some (.cells #[.int .i64 a1_0, .int .i64 a1_1] 25 (0, 0))) ∧ Aside0 (wc.heap[gb267]? = some (.cells #[.int .i64 0, .int .i64 0, .bool false, .int .i64 0] 28 (0, 0))) ∧ Aside0 (Below w.heap.size w wc))
 case first =>
  have H := HC3.out
  clear HC3
  replace H := Option.bind_eq_some_iff.mp H
  obtain ⟨t268, A70, H⟩ := H
  replace H : (if t268 = true then ((spec_IvOk.f a1_0 a1_1).bind fun t269 => (spec_IvQuo.j0 k (!t269) a0_0 a0_1 a1_0 a1_1)) else (spec_IvQuo.j0 k true a0_0 a0_1 a1_0 a1_1)) = some (r1, r2, r3, r4) := H
  have A7 := Aside0.mk A70
  clear A70
  by_cases c8 : t268 = true
  ·subst c8
   have H1 : ((spec_IvOk.f a1_0 a1_1).bind fun t269 => (spec_IvQuo.j0 k (!t269) a0_0 a0_1 a1_0 a1_1)) = some (r1, r2, r3, r4) := by rw [if_pos rfl] at H; exact H
   clear H
   have H := H1
   clear H1
   replace H := Option.bind_eq_some_iff.mp H
   obtain ⟨t269, A90, H⟩ := H
   replace H : (spec_IvQuo.j0 k (!t269) a0_0 a0_1 a1_0 a1_1) = some (r1, r2, r3, r4) := H
   have A9 := Aside0.mk A90
   clear A90
   have H' := Aside0.mk H
   clear H
   have hnb10 := NB265_266.out
   have hnc10 := NB266_265.out
   have hnb11 := NB265_267.out
   have hnc11 := NB267_265.out
   have hcz12_0 : w6.cell? ⟨gb265, 0, none⟩ = some (.int .i64 a0_0) := (blk_cell BK265.out 0).trans rfl
   have hcz12_1 : w6.cell? ⟨gb265, 1, none⟩ = some (.int .i64 a0_1) := (blk_cell BK265.out 1).trans rfl
   have hfz12_0 := blk_frozen BK265.out 0
   have hfz12_1 := blk_frozen BK265.out 1
   go_wp2_with (first | ((with_reducible refine gate_callee (f := 12) rfl ?_); refine goesL_ (some 7) rfl rfl Try.func12 (by kernel_rfl) rfl #[.agg #[.int .i64 a0_0, .int .i64 a0_1]] rfl (by (try simp only [List.map_toArray, List.map_cons, List.map_nil]); first | done | rfl | (simp only [List.length_drop, List.length_take]; rfl)) ?_; (with_reducible refine (spec_IvOk.calls a0_0 a0_1 true _ A7.out).mono ?_); rintro e w13 ⟨rfl, hb⟩; refine ⟨_, rfl, ?_⟩; replace BK265 := bb BK265 hb; replace BK266 := bb BK266 hb; replace BK267 := bb BK267 hb; replace HB := bs HB hb; (try clear hb); (try clear hb2); (try clear hk); (try clear hi); have hnb14 := NB266_267.out; have hnc14 := NB267_266.out; have hcz15_0 : w13.cell? ⟨gb266, 0, none⟩ = some (.int .i64 a1_0) := (blk_cell BK266.out 0).trans rfl; have hcz15_1 : w13.cell? ⟨gb266, 1, none⟩ = some (.int .i64 a1_1) := (blk_cell BK266.out 1).trans rfl; have hfz15_0 := blk_frozen BK266.out 0; have hfz15_1 := blk_frozen BK266.out 1) | (go_at_call 12; (with_reducible refine (spec_IvOk.calls a1_0 a1_1 t269 _ A9.out).mono ?_); rintro e w16 ⟨rfl, hb⟩; replace BK265 := bb BK265 hb; replace BK266 := bb BK266 hb; replace BK267 := bb BK267 hb; replace HB := bs HB hb; (try clear hb); (try clear hb2); (try clear hk); (try clear hi)))
   go_meet
   case rel => exact ⟨_, (!t269), (by first | rfl | (simp; done) | (simp [*]; done)), H', ⟨by first | omega | exact Nat.le_refl _⟩, ⟨bx BK265⟩, ⟨bx BK266⟩, ⟨bx BK267⟩, ⟨bw HB⟩⟩
  ·replace c8 := Bool.eq_false_iff.mpr c8
   subst c8
   have H1 : (spec_IvQuo.j0 k true a0_0 a0_1 a1_0 a1_1) = some (r1, r2, r3, r4) := by rw [if_neg (show ¬ (false = true) by decide)] at H; exact H
   clear H
   have H := H1
   clear H1
   have H' := Aside0.mk H
   clear H
   have hnb17 := NB265_266.out
   have hnc17 := NB266_265.out
   have hnb18 := NB265_267.out
   have hnc18 := NB267_265.out
   have hcz19_0 : w6.cell? ⟨gb265, 0, none⟩ = some (.int .i64 a0_0) := (blk_cell BK265.out 0).trans rfl
   have hcz19_1 : w6.cell? ⟨gb265, 1, none⟩ = some (.int .i64 a0_1) := (blk_cell BK265.out 1).trans rfl
   have hfz19_0 := blk_frozen BK265.out 0
   have hfz19_1 := blk_frozen BK265.out 1
   go_wp2_with (((with_reducible refine gate_callee (f := 12) rfl ?_); refine goesL_ (some 7) rfl rfl Try.func12 (by kernel_rfl) rfl #[.agg #[.int .i64 a0_0, .int .i64 a0_1]] rfl (by (try simp only [List.map_toArray, List.map_cons, List.map_nil]); first | done | rfl | (simp only [List.length_drop, List.length_take]; rfl)) ?_; (with_reducible refine (spec_IvOk.calls a0_0 a0_1 false _ A7.out).mono ?_); rintro e w20 ⟨rfl, hb⟩; refine ⟨_, rfl, ?_⟩; replace BK265 := bb BK265 hb; replace BK266 := bb BK266 hb; replace BK267 := bb BK267 hb; replace HB := bs HB hb; (try clear hb); (try clear hb2); (try clear hk); (try clear hi)))
   go_meet
   case rel => exact ⟨_, (true), (by first | rfl | (simp; done) | (simp [*]; done)), H', ⟨by first | omega | exact Nat.le_refl _⟩, ⟨bx BK265⟩, ⟨bx BK266⟩, ⟨bx BK267⟩, ⟨bw HB⟩⟩
 case rest =>
  clear HC3
  try clear c1
  try clear p2
  try clear c3
  try clear c8
  try clear c10
  try clear c11
  try clear c12
  try clear c14
  try clear c17
  try clear c18
  try clear hcz12_0
  try clear hcz12_1
  try clear hcz15_0
  try clear hcz15_1
  try clear hcz19_0
  try clear hcz19_1
  try clear hfz12_0
  try clear hfz12_1
  try clear hfz15_0
  try clear hfz15_1
  try clear hfz19_0
  try clear hfz19_1
  obtain ⟨kq, x13_2, rfl, HA, HJ2, BK265, BK266, BK267, HB⟩ := hcut
  cases kq with
  | zero => exact absurd HA.out (by simp [spec_IvQuo.j0])
  | succ kj2 =>
   have H := HA.out
   clear HA
   simp only [spec_IvQuo.j0] at H
   by_cases c21 : x13_2 = true
   ·subst c21
    have H1 : (some (0, 0, false, 0)) = some (r1, r2, r3, r4) := by rw [if_pos rfl] at H; exact H
    clear H
    have H := H1
    clear H1
    simp only [Option.some.injEq, Prod.mk.injEq] at H
    obtain ⟨rfl, rfl, rfl, rfl⟩ := H
    have hnb22 := NB267_265.out
    have hnc22 := NB265_267.out
    have hnb23 := NB267_266.out
    have hnc23 := NB266_267.out
    have hcz24_0 : wc.cell? ⟨gb267, 0, none⟩ = some (.int .i64 0) := (blk_cell BK267.out 0).trans rfl
    have hcz24_1 : wc.cell? ⟨gb267, 1, none⟩ = some (.int .i64 0) := (blk_cell BK267.out 1).trans rfl
    have hcz24_2 : wc.cell? ⟨gb267, 2, none⟩ = some (.bool false) := (blk_cell BK267.out 2).trans rfl
    have hcz24_3 : wc.cell? ⟨gb267, 3, none⟩ = some (.int .i64 0) := (blk_cell BK267.out 3).trans rfl
    have hfz24_0 := blk_frozen BK267.out 0
    have hfz24_1 := blk_frozen BK267.out 1
    have hfz24_2 := blk_frozen BK267.out 2
    have hfz24_3 := blk_frozen BK267.out 3
    go_wp2
    refine bodyPost_ret (results_cell_row rfl _ _ gb267 28 #[.int .i64 0, .int .i64 0, .bool false, .int .i64 0] (0, 0) _ rfl (by (with_reducible repeat (first | refine blk_drewN ?_ _ | refine blk_drew ?_ | refine blk_alloc ?_ _)); refine blk_put (cs := #[.int .i64 0, .int .i64 0, .bool false, .int .i64 0]) ?_ 3 _ rfl; (with_reducible repeat (first | refine blk_drewN ?_ _ | refine blk_drew ?_ | refine blk_alloc ?_ _)); refine blk_put (cs := #[.int .i64 0, .int .i64 0, .bool false, .int .i64 0]) ?_ 2 _ rfl; (with_reducible repeat (first | refine blk_drewN ?_ _ | refine blk_drew ?_ | refine blk_alloc ?_ _)); refine blk_put (cs := #[.int .i64 0, .int .i64 0, .bool false, .int .i64 0]) ?_ 1 _ rfl; (with_reducible repeat (first | refine blk_drewN ?_ _ | refine blk_drew ?_ | refine blk_alloc ?_ _)); refine blk_put (cs := #[.int .i64 0, .int .i64 0, .bool false, .int .i64 0]) ?_ 0 _ rfl; (with_reducible repeat (first | refine blk_drewN ?_ _ | refine blk_drew ?_ | refine blk_alloc ?_ _)); exact BK267.out) Try.underlying28 rfl (by kernel_rfl)) rfl ?_
    exact ⟨by first | rfl | (simp [errW_none, errW_some] <;> rfl) | (simp [*, errW_none, errW_some] <;> rfl), bw HB⟩
   ·replace c21 := Bool.eq_false_iff.mpr c21
    subst c21
    have H1 : ((spec_l2Parts.f a1_0 a1_1).bind fun t270 => ((spec_l2Box.f kj2 47 a0_0 a0_1 t270).bind fun bt273 => ((spec_IvHas.f a1_0 a1_1 0).bind fun t278 => (if t278 = true then (some (bt273.1, bt273.2.1, bt273.2.2.1, Go.bits .or .i64 bt273.2.2.2 1)) else (some (bt273.1, bt273.2.1, bt273.2.2.1, bt273.2.2.2)))))) = some (r1, r2, r3, r4) := by rw [if_neg (show ¬ (false = true) by decide)] at H; exact H
    clear H
    have H := H1
    clear H1
    replace H := Option.bind_eq_some_iff.mp H
    obtain ⟨t270, A250, H⟩ := H
    replace H : ((spec_l2Box.f kj2 47 a0_0 a0_1 t270).bind fun bt273 => ((spec_IvHas.f a1_0 a1_1 0).bind fun t278 => (if t278 = true then (some (bt273.1, bt273.2.1, bt273.2.2.1, Go.bits .or .i64 bt273.2.2.2 1)) else (some (bt273.1, bt273.2.1, bt273.2.2.1, bt273.2.2.2))))) = some (r1, r2, r3, r4) := H
    have A25 := Aside0.mk A250
    clear A250
    replace H := Option.bind_eq_some_iff.mp H
    obtain ⟨⟨t273, t274, t275, t276⟩, A260, H⟩ := H
    replace H : ((spec_IvHas.f a1_0 a1_1 0).bind fun t278 => (if t278 = true then (some (t273, t274, t275, Go.bits .or .i64 t276 1)) else (some (t273, t274, t275, t276)))) = some (r1, r2, r3, r4) := H
    have A26 := Aside0.mk A260
    clear A260
    replace H := Option.bind_eq_some_iff.mp H
    obtain ⟨t278, A270, H⟩ := H
    replace H : (if t278 = true then (some (t273, t274, t275, Go.bits .or .i64 t276 1)) else (some (t273, t274, t275, t276))) = some (r1, r2, r3, r4) := H
    have A27 := Aside0.mk A270
    clear A270
    by_cases c28 : t278 = true
    ·subst c28
     have H1 : (some (t273, t274, t275, Go.bits .or .i64 t276 1)) = some (r1, r2, r3, r4) := by rw [if_pos rfl] at H; exact H
     clear H
     have H := H1
     clear H1
     simp only [Option.some.injEq, Prod.mk.injEq] at H
     obtain ⟨rfl, rfl, rfl, rfl⟩ := H
     try go_wp2
     have n0_ := Aside0.mk (blk_drew BK265.out)
     have n1_ := Aside0.mk (blk_drew BK266.out)
     have n2_ := Aside0.mk (blk_drew BK267.out)
     have n3_ := Aside0.mk (below_drew1 HB.out)
     clear BK265
     clear BK266
     clear BK267
     clear HB
     have BK265 := n0_
     have BK266 := n1_
     have BK267 := n2_
     have HB := n3_
     clear n0_ n1_ n2_ n3_
     refine start_ (n := 6) (S := fun w' => w'.cell? ⟨gb265, 0, none⟩ = some (.int .i64 a0_0) ∧ w'.cell? ⟨gb265, 1, none⟩ = some (.int .i64 a0_1) ∧ w'.cell? ⟨gb266, 0, none⟩ = some (.int .i64 a1_0) ∧ w'.cell? ⟨gb266, 1, none⟩ = some (.int .i64 a1_1)) (ds := []) #[false, false, false, false, false, false] (by kernel_rfl) rfl rfl ⟨(blk_cell BK265.out 0).trans rfl, (blk_cell BK265.out 1).trans rfl, (blk_cell BK266.out 0).trans rfl, (blk_cell BK266.out 1).trans rfl⟩ (fun hHeld => ?_)
     generalize wc.drew = w29 at BK265 BK266 BK267 HB hHeld ⊢
     refine take_ (i := 0) (N := some 15) (v := ?_) (a' := ?_) #[true, false, false, false, false, false] rfl rfl (by kernel_rfl) (fun _ _ _ h => h) (Or.inl ⟨by rfl, ?_⟩) hHeld ?_ ?_
     rotate_left
     ·rintro w' ⟨s0, s1, s2, s3⟩
      go_simp
      with_reducible rfl
     rotate_left
     ·simp only [Act.put, List.setIfInBounds_toArray, List.set_cons_zero, List.set_cons_succ, i64_w, i32_w]
      rfl
     refine take_ (i := 1) (N := some 16) (v := ?_) (a' := ?_) #[true, true, false, false, false, false] rfl rfl (by kernel_rfl) (fun _ _ _ h => h) (Or.inl ⟨by rfl, ?_⟩) hHeld ?_ ?_
     rotate_left
     ·rintro w' ⟨s0, s1, s2, s3⟩
      go_simp
      with_reducible rfl
     rotate_left
     ·simp only [Act.put, List.setIfInBounds_toArray, List.set_cons_zero, List.set_cons_succ, i64_w, i32_w]
      rfl
     refine join_ (σ := Value × Nat) 1 #[true, true, true, true, true, false] (fun s_ => [(17, s_.1), (18, .agg #[.int .i64 t273, .int .i64 t274, .bool t275, .int .i64 t276]), (5, .pointer (some ⟨s_.2, 0, none⟩))]) (fun s_ w' => (w'.cell? ⟨gb265, 0, none⟩ = some (.int .i64 a0_0) ∧ w'.cell? ⟨gb265, 1, none⟩ = some (.int .i64 a0_1) ∧ w'.cell? ⟨gb266, 0, none⟩ = some (.int .i64 a1_0) ∧ w'.cell? ⟨gb266, 1, none⟩ = some (.int .i64 a1_1)) ∧ (Kd.R k25 25 w' w.heap.size (fun k_ => k_ ≠ gb265 ∧ k_ ≠ gb266) s_.1 t270) ∧ (w'.heap[gb265]? = some (.cells #[.int .i64 a0_0, .int .i64 a0_1] 25 (0, 0))) ∧ (w'.heap[gb266]? = some (.cells #[.int .i64 a1_0, .int .i64 a1_1] 25 (0, 0))) ∧ (w'.heap[gb267]? = some (.cells #[.int .i64 0, .int .i64 0, .bool false, .int .i64 0] 28 (0, 0))) ∧ (w'.heap[s_.2]? = some (.cells #[.int .i64 0, .int .i64 0, .bool false, .int .i64 0] 28 (0, 0))) ∧ (w.heap.size ≤ s_.2) ∧ (w.heap.size ≤ s_.2) ∧ (gb265 ≠ s_.2) ∧ (s_.2 ≠ gb265) ∧ (gb266 ≠ s_.2) ∧ (s_.2 ≠ gb266) ∧ (gb267 ≠ s_.2) ∧ (s_.2 ≠ gb267) ∧ (Below w.heap.size w w')) ?_ ?_
     rotate_left
     ·intro hCont
      refine two_ (i := 2) (j := 4) (Ni := some 17) (Nj := some 5) #[true, true, true, false, false, false] #[true, true, false, false, true, false] rfl rfl rfl rfl (by kernel_rfl) (by decide) (by decide) (fun K hK => ?_) (fun K hK => ?_)
      ·skip
       refine goes_ Try.func56 (by kernel_rfl) rfl #[.agg #[.int .i64 a1_0, .int .i64 a1_1]] (by rfl) rfl rfl (by (try simp only [List.map_toArray, List.map_cons, List.map_nil]); first | done | rfl | (simp only [List.length_drop, List.length_take]; rfl)) ?_
       with_reducible refine (spec_l2Parts.calls a1_0 a1_1 t270 _ A25.out).mono ?_
       rintro e w30 ⟨v271, rfl, ho0, hb⟩
       refine ⟨_, rfl, ?_⟩
       have n0_ := Aside0.mk (Kd.R_lower (Kd.R_newB (Kd.R_newB ho0 (bk BK265)) (bk BK266)) (below_size (bw HB)))
       have n1_ := bb BK265 hb
       have n2_ := bb BK266 hb
       have n3_ := bb BK267 hb
       have n4_ := bs HB hb
       clear BK265
       clear BK266
       clear BK267
       clear HB
       have HO272 := n0_
       have BK265 := n1_
       have BK266 := n2_
       have BK267 := n3_
       have HB := n4_
       clear n0_ n1_ n2_ n3_ n4_
       (try clear hb)
       (try clear hb2)
       (try clear hk)
       (try clear hi)
       (try clear ho0)
       obtain ⟨Ao31, co31, eo31⟩ := Kd.R_slice HO272.out
       (first | subst eo31 | (injection eo31 with f1_ f2_ f3_; have f4_ := f1_.symm; have f5_ := f3_.symm; clear f1_ f2_ f3_; subst f4_; subst f5_))
       refine hK.out _ _ ⟨(blk_cell BK265.out 0).trans rfl, (blk_cell BK265.out 1).trans rfl, (blk_cell BK266.out 0).trans rfl, (blk_cell BK266.out 1).trans rfl⟩ (fun hHeld => ?_)
       clear hK K
       refine norm_ (a' := ?_) ?_ ?_
       rotate_left
       ·show Act.put _ (some 17) _ = _
        simp only [Act.put, List.setIfInBounds_toArray, List.set_cons_zero, List.set_cons_succ, i64_w, i32_w]
        rfl
       refine two_ (i := 3) (j := 4) (Ni := some 18) (Nj := some 5) #[true, true, true, true, false, false] #[true, true, true, false, true, false] rfl rfl rfl rfl (by kernel_rfl) (by decide) (by decide) (fun K hK => ?_) (fun K hK => ?_)
       ·skip
        refine goes_ Try.func55 (by kernel_rfl) rfl #[.int .i64 47, .agg #[.int .i64 a0_0, .int .i64 a0_1], .slice Ao31 t270.length co31] (by rfl) rfl rfl (by (try simp only [List.map_toArray, List.map_cons, List.map_nil]); first | done | rfl | (simp only [List.length_drop, List.length_take]; rfl)) ?_
        with_reducible refine (spec_l2Box.calls kj2 47 a0_0 a0_1 _ _ t270 t273 t274 t275 t276 _ ?side1 ?side2 A26.out).mono ?_
        (case side1 => repeat (first | exact (Kd.R_reads' HO272.out).2.2 | (with_reducible refine Kd.C_alloc ?_ _) | (with_reducible refine Kd.C_drewN ?_ _) | (with_reducible refine Kd.C_drew ?_)))
        (case side2 => exact (Kd.R_reads' HO272.out).2.1)
        rintro e w32 ⟨rfl, hb⟩
        refine ⟨_, rfl, ?_⟩
        have n0_ := Aside0.mk (Kd.R_below (by (with_reducible repeat (first | apply Kd.R_alloc | apply Kd.R_drewN | apply Kd.R_drew)); exact HO272.out) hb)
        have n1_ := bb BK265 hb
        have n2_ := bb BK266 hb
        have n3_ := bb BK267 hb
        have n4_ := bs HB hb
        clear HO272
        clear BK265
        clear BK266
        clear BK267
        clear HB
        have HO272 := n0_
        have BK265 := n1_
        have BK266 := n2_
        have BK267 := n3_
        have HB := n4_
        clear n0_ n1_ n2_ n3_ n4_
        (try clear hb)
        (try clear hb2)
        (try clear hk)
        (try clear hi)
        refine hK.out _ _ ⟨(blk_cell BK265.out 0).trans rfl, (blk_cell BK265.out 1).trans rfl, (blk_cell BK266.out 0).trans rfl, (blk_cell BK266.out 1).trans rfl⟩ (fun hHeld => ?_)
        clear hK K
        refine norm_ (a' := ?_) ?_ ?_
        rotate_left
        ·show Act.put _ (some 18) _ = _
         simp only [Act.put, List.setIfInBounds_toArray, List.set_cons_zero, List.set_cons_succ, i64_w, i32_w]
         rfl
        refine one_ (i := 4) (N := some 5) #[true, true, true, true, true, false] rfl rfl (by kernel_rfl) (by decide) (fun K hK => ?_)
        refine box_step ?hg (N := 5) ?hd (cs := #[.int .i64 0, .int .i64 0, .bool false, .int .i64 0]) (t := 28) ?hr ?_; (case hd => rfl); (case hg => rfl); (case hr => first | (go_simp; done) | (go_simp; rfl))
        intro gb277 hg w33 hbox hb
        have n0_ := Aside0.mk (Kd.R_below (by (with_reducible repeat (first | apply Kd.R_alloc | apply Kd.R_drewN | apply Kd.R_drew)); exact HO272.out) hb)
        have n1_ := bb BK265 hb
        have n2_ := bb BK266 hb
        have n3_ := bb BK267 hb
        have n4_ := bs HB hb
        have n5_ := Aside0.mk (hbox)
        have n6_ := bz HB hg
        have n7_ := bz HB hg
        have n8_ := bl BK265 hg
        have n9_ := bg BK265 hg
        have n10_ := bl BK266 hg
        have n11_ := bg BK266 hg
        have n12_ := bl BK267 hg
        have n13_ := bg BK267 hg
        clear HO272
        clear BK265
        clear BK266
        clear BK267
        clear HB
        have HO272 := n0_
        have BK265 := n1_
        have BK266 := n2_
        have BK267 := n3_
        have HB := n4_
        have BK277 := n5_
        have GW277 := n6_
        have GE277 := n7_
        have NB265_277 := n8_
        have NB277_265 := n9_
        have NB266_277 := n10_
        have NB277_266 := n11_
        have NB267_277 := n12_
        have NB277_267 := n13_
        clear n0_ n1_ n2_ n3_ n4_ n5_ n6_ n7_ n8_ n9_ n10_ n11_ n12_ n13_
        clear hb hbox hg
        refine hK.out _ _ ⟨(blk_cell BK265.out 0).trans rfl, (blk_cell BK265.out 1).trans rfl, (blk_cell BK266.out 0).trans rfl, (blk_cell BK266.out 1).trans rfl⟩ (fun hHeld => ?_)
        clear hK K
        refine norm_ (a' := ?_) ?_ ?_
        rotate_left
        ·show Act.put _ (some 5) _ = _
         simp only [Act.put, List.setIfInBounds_toArray, List.set_cons_zero, List.set_cons_succ, i64_w, i32_w]
         rfl
        exact norm_ (by simp only [putAll, Act.put, List.setIfInBounds_toArray, List.set_cons_zero, List.set_cons_succ]) (hCont (.slice Ao31 t270.length co31, gb277) _ ⟨hHeld, (by (with_reducible repeat (first | apply Kd.R_alloc | apply Kd.R_drewN | apply Kd.R_drew)); exact Kd.R_mono HO272.out (fun _ hk => ⟨hk.1.2, hk.2⟩)), (bk BK265), (bk BK266), (bk BK267), (bk BK277), GW277.out, GE277.out, NB265_277.out, NB277_265.out, NB266_277.out, NB277_266.out, NB267_277.out, NB277_267.out, (bw HB)⟩)
       ·skip
        refine box_step ?hg (N := 5) ?hd (cs := #[.int .i64 0, .int .i64 0, .bool false, .int .i64 0]) (t := 28) ?hr ?_; (case hd => rfl); (case hg => rfl); (case hr => first | (go_simp; done) | (go_simp; rfl))
        intro gb277 hg w31 hbox hb
        have n0_ := Aside0.mk (Kd.R_below (by (with_reducible repeat (first | apply Kd.R_alloc | apply Kd.R_drewN | apply Kd.R_drew)); exact HO272.out) hb)
        have n1_ := bb BK265 hb
        have n2_ := bb BK266 hb
        have n3_ := bb BK267 hb
        have n4_ := bs HB hb
        have n5_ := Aside0.mk (hbox)
        have n6_ := bz HB hg
        have n7_ := bz HB hg
        have n8_ := bl BK265 hg
        have n9_ := bg BK265 hg
        have n10_ := bl BK266 hg
        have n11_ := bg BK266 hg
        have n12_ := bl BK267 hg
        have n13_ := bg BK267 hg
        clear HO272
        clear BK265
        clear BK266
        clear BK267
        clear HB
        have HO272 := n0_
        have BK265 := n1_
        have BK266 := n2_
        have BK267 := n3_
        have HB := n4_
        have BK277 := n5_
        have GW277 := n6_
        have GE277 := n7_
        have NB265_277 := n8_
        have NB277_265 := n9_
        have NB266_277 := n10_
        have NB277_266 := n11_
        have NB267_277 := n12_
        have NB277_267 := n13_
        clear n0_ n1_ n2_ n3_ n4_ n5_ n6_ n7_ n8_ n9_ n10_ n11_ n12_ n13_
        clear hb hbox hg
        obtain ⟨Ao32, co32, eo32⟩ := Kd.R_slice HO272.out
        (first | subst eo32 | (injection eo32 with f1_ f2_ f3_; have f4_ := f1_.symm; have f5_ := f3_.symm; clear f1_ f2_ f3_; subst f4_; subst f5_))
        refine hK.out _ _ ⟨(blk_cell BK265.out 0).trans rfl, (blk_cell BK265.out 1).trans rfl, (blk_cell BK266.out 0).trans rfl, (blk_cell BK266.out 1).trans rfl⟩ (fun hHeld => ?_)
        clear hK K
        refine norm_ (a' := ?_) ?_ ?_
        rotate_left
        ·show Act.put _ (some 5) _ = _
         simp only [Act.put, List.setIfInBounds_toArray, List.set_cons_zero, List.set_cons_succ, i64_w, i32_w]
         rfl
        refine one_ (i := 3) (N := some 18) #[true, true, true, true, true, false] rfl rfl (by kernel_rfl) (by decide) (fun K hK => ?_)
        refine goes_ Try.func55 (by kernel_rfl) rfl #[.int .i64 47, .agg #[.int .i64 a0_0, .int .i64 a0_1], .slice Ao32 t270.length co32] (by rfl) rfl rfl (by (try simp only [List.map_toArray, List.map_cons, List.map_nil]); first | done | rfl | (simp only [List.length_drop, List.length_take]; rfl)) ?_
        with_reducible refine (spec_l2Box.calls kj2 47 a0_0 a0_1 _ _ t270 t273 t274 t275 t276 _ ?side1 ?side2 A26.out).mono ?_
        (case side1 => repeat (first | exact (Kd.R_reads' HO272.out).2.2 | (with_reducible refine Kd.C_alloc ?_ _) | (with_reducible refine Kd.C_drewN ?_ _) | (with_reducible refine Kd.C_drew ?_)))
        (case side2 => exact (Kd.R_reads' HO272.out).2.1)
        rintro e w33 ⟨rfl, hb⟩
        refine ⟨_, rfl, ?_⟩
        have n0_ := Aside0.mk (Kd.R_below (by (with_reducible repeat (first | apply Kd.R_alloc | apply Kd.R_drewN | apply Kd.R_drew)); exact HO272.out) hb)
        have n1_ := bb BK265 hb
        have n2_ := bb BK266 hb
        have n3_ := bb BK267 hb
        have n4_ := bb BK277 hb
        have n5_ := bs HB hb
        clear HO272
        clear BK265
        clear BK266
        clear BK267
        clear BK277
        clear HB
        have HO272 := n0_
        have BK265 := n1_
        have BK266 := n2_
        have BK267 := n3_
        have BK277 := n4_
        have HB := n5_
        clear n0_ n1_ n2_ n3_ n4_ n5_
        (try clear hb)
        (try clear hb2)
        (try clear hk)
        (try clear hi)
        refine hK.out _ _ ⟨(blk_cell BK265.out 0).trans rfl, (blk_cell BK265.out 1).trans rfl, (blk_cell BK266.out 0).trans rfl, (blk_cell BK266.out 1).trans rfl⟩ (fun hHeld => ?_)
        clear hK K
        refine norm_ (a' := ?_) ?_ ?_
        rotate_left
        ·show Act.put _ (some 18) _ = _
         simp only [Act.put, List.setIfInBounds_toArray, List.set_cons_zero, List.set_cons_succ, i64_w, i32_w]
         rfl
        exact norm_ (by simp only [putAll, Act.put, List.setIfInBounds_toArray, List.set_cons_zero, List.set_cons_succ]) (hCont (.slice Ao32 t270.length co32, gb277) _ ⟨hHeld, (by (with_reducible repeat (first | apply Kd.R_alloc | apply Kd.R_drewN | apply Kd.R_drew)); exact Kd.R_mono HO272.out (fun _ hk => ⟨hk.1.2, hk.2⟩)), (bk BK265), (bk BK266), (bk BK267), (bk BK277), GW277.out, GE277.out, NB265_277.out, NB277_265.out, NB266_277.out, NB277_266.out, NB267_277.out, NB277_267.out, (bw HB)⟩)
      ·skip
       refine box_step ?hg (N := 5) ?hd (cs := #[.int .i64 0, .int .i64 0, .bool false, .int .i64 0]) (t := 28) ?hr ?_; (case hd => rfl); (case hg => rfl); (case hr => first | (go_simp; done) | (go_simp; rfl))
       intro gb277 hg w30 hbox hb
       have n0_ := bb BK265 hb
       have n1_ := bb BK266 hb
       have n2_ := bb BK267 hb
       have n3_ := bs HB hb
       have n4_ := Aside0.mk (hbox)
       have n5_ := bz HB hg
       have n6_ := bz HB hg
       have n7_ := bl BK265 hg
       have n8_ := bg BK265 hg
       have n9_ := bl BK266 hg
       have n10_ := bg BK266 hg
       have n11_ := bl BK267 hg
       have n12_ := bg BK267 hg
       clear BK265
       clear BK266
       clear BK267
       clear HB
       have BK265 := n0_
       have BK266 := n1_
       have BK267 := n2_
       have HB := n3_
       have BK277 := n4_
       have GW277 := n5_
       have GE277 := n6_
       have NB265_277 := n7_
       have NB277_265 := n8_
       have NB266_277 := n9_
       have NB277_266 := n10_
       have NB267_277 := n11_
       have NB277_267 := n12_
       clear n0_ n1_ n2_ n3_ n4_ n5_ n6_ n7_ n8_ n9_ n10_ n11_ n12_
       clear hb hbox hg
       refine hK.out _ _ ⟨(blk_cell BK265.out 0).trans rfl, (blk_cell BK265.out 1).trans rfl, (blk_cell BK266.out 0).trans rfl, (blk_cell BK266.out 1).trans rfl⟩ (fun hHeld => ?_)
       clear hK K
       refine norm_ (a' := ?_) ?_ ?_
       rotate_left
       ·show Act.put _ (some 5) _ = _
        simp only [Act.put, List.setIfInBounds_toArray, List.set_cons_zero, List.set_cons_succ, i64_w, i32_w]
        rfl
       refine one_ (i := 2) (N := some 17) #[true, true, true, false, true, false] rfl rfl (by kernel_rfl) (by decide) (fun K hK => ?_)
       refine goes_ Try.func56 (by kernel_rfl) rfl #[.agg #[.int .i64 a1_0, .int .i64 a1_1]] (by rfl) rfl rfl (by (try simp only [List.map_toArray, List.map_cons, List.map_nil]); first | done | rfl | (simp only [List.length_drop, List.length_take]; rfl)) ?_
       with_reducible refine (spec_l2Parts.calls a1_0 a1_1 t270 _ A25.out).mono ?_
       rintro e w31 ⟨v271, rfl, ho0, hb⟩
       refine ⟨_, rfl, ?_⟩
       have n0_ := Aside0.mk (Kd.R_lower (Kd.R_newB (Kd.R_newB ho0 (bk BK265)) (bk BK266)) (below_size (bw HB)))
       have n1_ := bb BK265 hb
       have n2_ := bb BK266 hb
       have n3_ := bb BK267 hb
       have n4_ := bb BK277 hb
       have n5_ := bs HB hb
       clear BK265
       clear BK266
       clear BK267
       clear BK277
       clear HB
       have HO272 := n0_
       have BK265 := n1_
       have BK266 := n2_
       have BK267 := n3_
       have BK277 := n4_
       have HB := n5_
       clear n0_ n1_ n2_ n3_ n4_ n5_
       (try clear hb)
       (try clear hb2)
       (try clear hk)
       (try clear hi)
       (try clear ho0)
       obtain ⟨Ao32, co32, eo32⟩ := Kd.R_slice HO272.out
       (first | subst eo32 | (injection eo32 with f1_ f2_ f3_; have f4_ := f1_.symm; have f5_ := f3_.symm; clear f1_ f2_ f3_; subst f4_; subst f5_))
       refine hK.out _ _ ⟨(blk_cell BK265.out 0).trans rfl, (blk_cell BK265.out 1).trans rfl, (blk_cell BK266.out 0).trans rfl, (blk_cell BK266.out 1).trans rfl⟩ (fun hHeld => ?_)
       clear hK K
       refine norm_ (a' := ?_) ?_ ?_
       rotate_left
       ·show Act.put _ (some 17) _ = _
        simp only [Act.put, List.setIfInBounds_toArray, List.set_cons_zero, List.set_cons_succ, i64_w, i32_w]
        rfl
       refine one_ (i := 3) (N := some 18) #[true, true, true, true, true, false] rfl rfl (by kernel_rfl) (by decide) (fun K hK => ?_)
       refine goes_ Try.func55 (by kernel_rfl) rfl #[.int .i64 47, .agg #[.int .i64 a0_0, .int .i64 a0_1], .slice Ao32 t270.length co32] (by rfl) rfl rfl (by (try simp only [List.map_toArray, List.map_cons, List.map_nil]); first | done | rfl | (simp only [List.length_drop, List.length_take]; rfl)) ?_
       with_reducible refine (spec_l2Box.calls kj2 47 a0_0 a0_1 _ _ t270 t273 t274 t275 t276 _ ?side1 ?side2 A26.out).mono ?_
       (case side1 => repeat (first | exact (Kd.R_reads' HO272.out).2.2 | (with_reducible refine Kd.C_alloc ?_ _) | (with_reducible refine Kd.C_drewN ?_ _) | (with_reducible refine Kd.C_drew ?_)))
       (case side2 => exact (Kd.R_reads' HO272.out).2.1)
       rintro e w33 ⟨rfl, hb⟩
       refine ⟨_, rfl, ?_⟩
       have n0_ := Aside0.mk (Kd.R_below (by (with_reducible repeat (first | apply Kd.R_alloc | apply Kd.R_drewN | apply Kd.R_drew)); exact HO272.out) hb)
       have n1_ := bb BK265 hb
       have n2_ := bb BK266 hb
       have n3_ := bb BK267 hb
       have n4_ := bb BK277 hb
       have n5_ := bs HB hb
       clear HO272
       clear BK265
       clear BK266
       clear BK267
       clear BK277
       clear HB
       have HO272 := n0_
       have BK265 := n1_
       have BK266 := n2_
       have BK267 := n3_
       have BK277 := n4_
       have HB := n5_
       clear n0_ n1_ n2_ n3_ n4_ n5_
       (try clear hb)
       (try clear hb2)
       (try clear hk)
       (try clear hi)
       refine hK.out _ _ ⟨(blk_cell BK265.out 0).trans rfl, (blk_cell BK265.out 1).trans rfl, (blk_cell BK266.out 0).trans rfl, (blk_cell BK266.out 1).trans rfl⟩ (fun hHeld => ?_)
       clear hK K
       refine norm_ (a' := ?_) ?_ ?_
       rotate_left
       ·show Act.put _ (some 18) _ = _
        simp only [Act.put, List.setIfInBounds_toArray, List.set_cons_zero, List.set_cons_succ, i64_w, i32_w]
        rfl
       exact norm_ (by simp only [putAll, Act.put, List.setIfInBounds_toArray, List.set_cons_zero, List.set_cons_succ]) (hCont (.slice Ao32 t270.length co32, gb277) _ ⟨hHeld, (by (with_reducible repeat (first | apply Kd.R_alloc | apply Kd.R_drewN | apply Kd.R_drew)); exact Kd.R_mono HO272.out (fun _ hk => ⟨hk.1.2, hk.2⟩)), (bk BK265), (bk BK266), (bk BK267), (bk BK277), GW277.out, GE277.out, NB265_277.out, NB277_265.out, NB266_277.out, NB277_266.out, NB267_277.out, NB277_267.out, (bw HB)⟩)
     rintro ⟨v271, gb277⟩ w34 ⟨hS_, h0_, h1_, h2_, h3_, h4_, h5_, h6_, h7_, h8_, h9_, h10_, h11_, h12_, h13_⟩
     have n0_ : Aside0 (Kd.R k25 25 w34 w.heap.size (fun k_ => k_ ≠ gb265 ∧ k_ ≠ gb266) v271 t270) := ⟨h0_⟩
     have n1_ : Aside0 (w34.heap[gb265]? = some (.cells #[.int .i64 a0_0, .int .i64 a0_1] 25 (0, 0))) := ⟨h1_⟩
     have n2_ : Aside0 (w34.heap[gb266]? = some (.cells #[.int .i64 a1_0, .int .i64 a1_1] 25 (0, 0))) := ⟨h2_⟩
     have n3_ : Aside0 (w34.heap[gb267]? = some (.cells #[.int .i64 0, .int .i64 0, .bool false, .int .i64 0] 28 (0, 0))) := ⟨h3_⟩
     have n4_ : Aside0 (w34.heap[gb277]? = some (.cells #[.int .i64 0, .int .i64 0, .bool false, .int .i64 0] 28 (0, 0))) := ⟨h4_⟩
     have n5_ : Aside0 (w.heap.size ≤ gb277) := ⟨h5_⟩
     have n6_ : Aside0 (w.heap.size ≤ gb277) := ⟨h6_⟩
     have n7_ : Aside0 (gb265 ≠ gb277) := ⟨h7_⟩
     have n8_ : Aside0 (gb277 ≠ gb265) := ⟨h8_⟩
     have n9_ : Aside0 (gb266 ≠ gb277) := ⟨h9_⟩
     have n10_ : Aside0 (gb277 ≠ gb266) := ⟨h10_⟩
     have n11_ : Aside0 (gb267 ≠ gb277) := ⟨h11_⟩
     have n12_ : Aside0 (gb277 ≠ gb267) := ⟨h12_⟩
     have n13_ : Aside0 (Below w.heap.size w w34) := ⟨h13_⟩
     clear BK265
     clear BK266
     clear BK267
     clear HB
     clear h0_ h1_ h2_ h3_ h4_ h5_ h6_ h7_ h8_ h9_ h10_ h11_ h12_ h13_
     have HO272 := n0_
     have BK265 := n1_
     have BK266 := n2_
     have BK267 := n3_
     have BK277 := n4_
     have GW277 := n5_
     have GE277 := n6_
     have NB265_277 := n7_
     have NB277_265 := n8_
     have NB266_277 := n9_
     have NB277_266 := n10_
     have NB267_277 := n11_
     have NB277_267 := n12_
     have HB := n13_
     clear n0_ n1_ n2_ n3_ n4_ n5_ n6_ n7_ n8_ n9_ n10_ n11_ n12_ n13_
     have hHeld : w34.cell? ⟨gb265, 0, none⟩ = some (.int .i64 a0_0) ∧ w34.cell? ⟨gb265, 1, none⟩ = some (.int .i64 a0_1) ∧ w34.cell? ⟨gb266, 0, none⟩ = some (.int .i64 a1_0) ∧ w34.cell? ⟨gb266, 1, none⟩ = some (.int .i64 a1_1) := hS_
     refine norm_ (a' := ?_) ?_ ?_
     rotate_left
     ·simp only [putAll, Act.put, List.setIfInBounds_toArray, List.set_cons_zero, List.set_cons_succ]
      rfl
     refine one_ (i := 5) (N := none) #[true, true, true, true, true, true] rfl rfl (by kernel_rfl) (by decide) (fun K hK => ?_)
     have hs35 : w34.cell? ⟨gb277, 0, none⟩ = some (.int .i64 0) := (blk_cell BK277.out 0).trans rfl
     have hfs35 := blk_frozen BK277.out 0
     have hns35_0 := NB265_277.out
     have hns35_1 := NB266_277.out
     have hns35_2 := NB267_277.out
     have hms35_0 := NB277_265.out
     have hms35_1 := NB277_266.out
     have hms35_2 := NB277_267.out
     have hs36 : w34.cell? ⟨gb277, 1, none⟩ = some (.int .i64 0) := (blk_cell BK277.out 1).trans rfl
     have hfs36 := blk_frozen BK277.out 1
     have hns36_0 := NB265_277.out
     have hns36_1 := NB266_277.out
     have hns36_2 := NB267_277.out
     have hms36_0 := NB277_265.out
     have hms36_1 := NB277_266.out
     have hms36_2 := NB277_267.out
     have hs37 : w34.cell? ⟨gb277, 2, none⟩ = some (.bool false) := (blk_cell BK277.out 2).trans rfl
     have hfs37 := blk_frozen BK277.out 2
     have hns37_0 := NB265_277.out
     have hns37_1 := NB266_277.out
     have hns37_2 := NB267_277.out
     have hms37_0 := NB277_265.out
     have hms37_1 := NB277_266.out
     have hms37_2 := NB277_267.out
     have hs38 : w34.cell? ⟨gb277, 3, none⟩ = some (.int .i64 0) := (blk_cell BK277.out 3).trans rfl
     have hfs38 := blk_frozen BK277.out 3
     have hns38_0 := NB265_277.out
     have hns38_1 := NB266_277.out
     have hns38_2 := NB267_277.out
     have hms38_0 := NB277_265.out
     have hms38_1 := NB277_266.out
     have hms38_2 := NB277_267.out
     refine skip_ (w1 := ?_) (by rfl) rfl ?_ ?_
     rotate_left
     ·go_simp
      rfl
     refine hK.out _ _ ⟨((cell_far (p := ⟨gb277, _, none⟩) NB265_277.out _).trans (((cell_far (p := ⟨gb277, _, none⟩) NB265_277.out _).trans (((cell_far (p := ⟨gb277, _, none⟩) NB265_277.out _).trans (((cell_far (p := ⟨gb277, _, none⟩) NB265_277.out _).trans (hHeld.1)))))))), ((cell_far (p := ⟨gb277, _, none⟩) NB265_277.out _).trans (((cell_far (p := ⟨gb277, _, none⟩) NB265_277.out _).trans (((cell_far (p := ⟨gb277, _, none⟩) NB265_277.out _).trans (((cell_far (p := ⟨gb277, _, none⟩) NB265_277.out _).trans (hHeld.2.1)))))))), ((cell_far (p := ⟨gb277, _, none⟩) NB266_277.out _).trans (((cell_far (p := ⟨gb277, _, none⟩) NB266_277.out _).trans (((cell_far (p := ⟨gb277, _, none⟩) NB266_277.out _).trans (((cell_far (p := ⟨gb277, _, none⟩) NB266_277.out _).trans (hHeld.2.2.1)))))))), ((cell_far (p := ⟨gb277, _, none⟩) NB266_277.out _).trans (((cell_far (p := ⟨gb277, _, none⟩) NB266_277.out _).trans (((cell_far (p := ⟨gb277, _, none⟩) NB266_277.out _).trans (((cell_far (p := ⟨gb277, _, none⟩) NB266_277.out _).trans (hHeld.2.2.2))))))))⟩ (fun hHeld => ?_)
     clear hK K
     refine done_ (by kernel_rfl) ?_
     have hnb39 := NB266_265.out
     have hnc39 := NB265_266.out
     have hnb40 := NB266_267.out
     have hnc40 := NB267_266.out
     have hnb41 := NB266_277.out
     have hnc41 := NB277_266.out
     have hcz42_0 : w34.cell? ⟨gb266, 0, none⟩ = some (.int .i64 a1_0) := (blk_cell BK266.out 0).trans rfl
     have hcz42_1 : w34.cell? ⟨gb266, 1, none⟩ = some (.int .i64 a1_1) := (blk_cell BK266.out 1).trans rfl
     have hfz42_0 := blk_frozen BK266.out 0
     have hfz42_1 := blk_frozen BK266.out 1
     try go_wp2_with (first | ((with_reducible refine gate_callee (f := 57) rfl ?_); refine goesL_ (some 20) rfl rfl Try.func57 (by kernel_rfl) rfl #[.agg #[.int .i64 a1_0, .int .i64 a1_1], .int .i64 0] rfl (by (try simp only [List.map_toArray, List.map_cons, List.map_nil]); first | done | rfl | (simp only [List.length_drop, List.length_take]; rfl)) ?_; (with_reducible refine (spec_IvHas.calls a1_0 a1_1 0 true _ A27.out).mono ?_); rintro e w43 ⟨rfl, hb⟩; refine ⟨_, rfl, ?_⟩; have n0_ := Aside0.mk (Kd.R_below (by (with_reducible repeat (first | apply Kd.R_alloc | apply Kd.R_drewN | apply Kd.R_drew)); exact (Kd.R_mono (Kd.R_far (p := ⟨gb277, 3, none⟩) (Kd.R_far (p := ⟨gb277, 2, none⟩) (Kd.R_far (p := ⟨gb277, 1, none⟩) (Kd.R_far (p := ⟨gb277, 0, none⟩) (Kd.R_types HO272.out BK277.out (by decide)) (fun _ hk => hk.2) (.int .i64 t273)) (fun _ hk => hk.2) (.int .i64 t274)) (fun _ hk => hk.2) (.bool t275)) (fun _ hk => hk.2) (.int .i64 t276)) (fun _ h_ => h_.1))) hb); have n1_ := Aside0.mk (blk_below (g := gb265) (o := .cells #[.int .i64 a0_0, .int .i64 a0_1] 25 (0, 0)) (bx BK265) hb); have n2_ := Aside0.mk (blk_below (g := gb266) (o := .cells #[.int .i64 a1_0, .int .i64 a1_1] 25 (0, 0)) (bx BK266) hb); have n3_ := Aside0.mk (blk_below (g := gb267) (o := .cells #[.int .i64 0, .int .i64 0, .bool false, .int .i64 0] 28 (0, 0)) (bx BK267) hb); have n4_ := Aside0.mk (blk_below (g := gb277) (o := .cells #[.int .i64 t273, .int .i64 t274, .bool t275, .int .i64 t276] 28 (0, 0)) (by (with_reducible repeat (first | refine blk_drewN ?_ _ | refine blk_drew ?_ | refine blk_alloc ?_ _)); refine blk_put (cs := #[.int .i64 t273, .int .i64 t274, .bool t275, .int .i64 0]) ?_ 3 _ rfl; (with_reducible repeat (first | refine blk_drewN ?_ _ | refine blk_drew ?_ | refine blk_alloc ?_ _)); refine blk_put (cs := #[.int .i64 t273, .int .i64 t274, .bool false, .int .i64 0]) ?_ 2 _ rfl; (with_reducible repeat (first | refine blk_drewN ?_ _ | refine blk_drew ?_ | refine blk_alloc ?_ _)); refine blk_put (cs := #[.int .i64 t273, .int .i64 0, .bool false, .int .i64 0]) ?_ 1 _ rfl; (with_reducible repeat (first | refine blk_drewN ?_ _ | refine blk_drew ?_ | refine blk_alloc ?_ _)); refine blk_put (cs := #[.int .i64 0, .int .i64 0, .bool false, .int .i64 0]) ?_ 0 _ rfl; (with_reducible repeat (first | refine blk_drewN ?_ _ | refine blk_drew ?_ | refine blk_alloc ?_ _)); exact BK277.out) hb); have n5_ := bs HB hb; clear HO272; clear BK265; clear BK266; clear BK267; clear BK277; clear HB; have HO272 := n0_; have BK265 := n1_; have BK266 := n2_; have BK267 := n3_; have BK277 := n4_; have HB := n5_; clear n0_ n1_ n2_ n3_ n4_ n5_; (try clear hb); (try clear hb2); (try clear hk); (try clear hi); have hnb44 := NB277_265.out; have hnc44 := NB265_277.out; have hnb45 := NB277_267.out; have hnc45 := NB267_277.out; have hcz46_0 : w43.cell? ⟨gb277, 0, none⟩ = some (.int .i64 t273) := (blk_cell BK277.out 0).trans rfl; have hcz46_1 : w43.cell? ⟨gb277, 1, none⟩ = some (.int .i64 t274) := (blk_cell BK277.out 1).trans rfl; have hcz46_2 : w43.cell? ⟨gb277, 2, none⟩ = some (.bool t275) := (blk_cell BK277.out 2).trans rfl; have hcz46_3 : w43.cell? ⟨gb277, 3, none⟩ = some (.int .i64 t276) := (blk_cell BK277.out 3).trans rfl; have hfz46_0 := blk_frozen BK277.out 0; have hfz46_1 := blk_frozen BK277.out 1; have hfz46_2 := blk_frozen BK277.out 2; have hfz46_3 := blk_frozen BK277.out 3; have hnb47 := NB267_265.out; have hnc47 := NB265_267.out; have hcz48_0 : w43.cell? ⟨gb267, 0, none⟩ = some (.int .i64 0) := (blk_cell BK267.out 0).trans rfl; have hcz48_1 : w43.cell? ⟨gb267, 1, none⟩ = some (.int .i64 0) := (blk_cell BK267.out 1).trans rfl; have hcz48_2 : w43.cell? ⟨gb267, 2, none⟩ = some (.bool false) := (blk_cell BK267.out 2).trans rfl; have hcz48_3 : w43.cell? ⟨gb267, 3, none⟩ = some (.int .i64 0) := (blk_cell BK267.out 3).trans rfl; have hfz48_0 := blk_frozen BK267.out 0; have hfz48_1 := blk_frozen BK267.out 1; have hfz48_2 := blk_frozen BK267.out 2; have hfz48_3 := blk_frozen BK267.out 3))
     refine bodyPost_ret (results_cell_row rfl _ _ gb267 28 #[.int .i64 t273, .int .i64 t274, .bool t275, .int .i64 (Go.bits .or .i64 t276 1)] (0, 0) _ rfl (by (with_reducible repeat (first | refine blk_drewN ?_ _ | refine blk_drew ?_ | refine blk_alloc ?_ _)); refine blk_put (cs := #[.int .i64 t273, .int .i64 t274, .bool t275, .int .i64 0]) ?_ 3 _ rfl; (with_reducible repeat (first | refine blk_drewN ?_ _ | refine blk_drew ?_ | refine blk_alloc ?_ _)); refine blk_put (cs := #[.int .i64 t273, .int .i64 t274, .bool false, .int .i64 0]) ?_ 2 _ rfl; (with_reducible repeat (first | refine blk_drewN ?_ _ | refine blk_drew ?_ | refine blk_alloc ?_ _)); refine blk_put (cs := #[.int .i64 t273, .int .i64 0, .bool false, .int .i64 0]) ?_ 1 _ rfl; (with_reducible repeat (first | refine blk_drewN ?_ _ | refine blk_drew ?_ | refine blk_alloc ?_ _)); refine blk_put (cs := #[.int .i64 0, .int .i64 0, .bool false, .int .i64 0]) ?_ 0 _ rfl; (with_reducible repeat (first | refine blk_drewN ?_ _ | refine blk_drew ?_ | refine blk_alloc ?_ _)); refine blk_far ?_ NB267_277.out _; (with_reducible repeat (first | refine blk_drewN ?_ _ | refine blk_drew ?_ | refine blk_alloc ?_ _)); exact BK267.out) Try.underlying28 rfl (by kernel_rfl)) rfl ?_
     exact ⟨by first | rfl | (simp [errW_none, errW_some] <;> rfl) | (simp [*, errW_none, errW_some] <;> rfl), bw HB⟩
    ·replace c28 := Bool.eq_false_iff.mpr c28
     subst c28
     have H1 : (some (t273, t274, t275, t276)) = some (r1, r2, r3, r4) := by rw [if_neg (show ¬ (false = true) by decide)] at H; exact H
     clear H
     have H := H1
     clear H1
     simp only [Option.some.injEq, Prod.mk.injEq] at H
     obtain ⟨rfl, rfl, rfl, rfl⟩ := H
     try go_wp2
     have n0_ := Aside0.mk (blk_drew BK265.out)
     have n1_ := Aside0.mk (blk_drew BK266.out)
     have n2_ := Aside0.mk (blk_drew BK267.out)
     have n3_ := Aside0.mk (below_drew1 HB.out)
     clear BK265
     clear BK266
     clear BK267
     clear HB
     have BK265 := n0_
     have BK266 := n1_
     have BK267 := n2_
     have HB := n3_
     clear n0_ n1_ n2_ n3_
     refine start_ (n := 6) (S := fun w' => w'.cell? ⟨gb265, 0, none⟩ = some (.int .i64 a0_0) ∧ w'.cell? ⟨gb265, 1, none⟩ = some (.int .i64 a0_1) ∧ w'.cell? ⟨gb266, 0, none⟩ = some (.int .i64 a1_0) ∧ w'.cell? ⟨gb266, 1, none⟩ = some (.int .i64 a1_1)) (ds := []) #[false, false, false, false, false, false] (by kernel_rfl) rfl rfl ⟨(blk_cell BK265.out 0).trans rfl, (blk_cell BK265.out 1).trans rfl, (blk_cell BK266.out 0).trans rfl, (blk_cell BK266.out 1).trans rfl⟩ (fun hHeld => ?_)
     generalize wc.drew = w49 at BK265 BK266 BK267 HB hHeld ⊢
     refine take_ (i := 0) (N := some 15) (v := ?_) (a' := ?_) #[true, false, false, false, false, false] rfl rfl (by kernel_rfl) (fun _ _ _ h => h) (Or.inl ⟨by rfl, ?_⟩) hHeld ?_ ?_
     rotate_left
     ·rintro w' ⟨s0, s1, s2, s3⟩
      go_simp
      with_reducible rfl
     rotate_left
     ·simp only [Act.put, List.setIfInBounds_toArray, List.set_cons_zero, List.set_cons_succ, i64_w, i32_w]
      rfl
     refine take_ (i := 1) (N := some 16) (v := ?_) (a' := ?_) #[true, true, false, false, false, false] rfl rfl (by kernel_rfl) (fun _ _ _ h => h) (Or.inl ⟨by rfl, ?_⟩) hHeld ?_ ?_
     rotate_left
     ·rintro w' ⟨s0, s1, s2, s3⟩
      go_simp
      with_reducible rfl
     rotate_left
     ·simp only [Act.put, List.setIfInBounds_toArray, List.set_cons_zero, List.set_cons_succ, i64_w, i32_w]
      rfl
     refine join_ (σ := Value × Nat) 1 #[true, true, true, true, true, false] (fun s_ => [(17, s_.1), (18, .agg #[.int .i64 t273, .int .i64 t274, .bool t275, .int .i64 t276]), (5, .pointer (some ⟨s_.2, 0, none⟩))]) (fun s_ w' => (w'.cell? ⟨gb265, 0, none⟩ = some (.int .i64 a0_0) ∧ w'.cell? ⟨gb265, 1, none⟩ = some (.int .i64 a0_1) ∧ w'.cell? ⟨gb266, 0, none⟩ = some (.int .i64 a1_0) ∧ w'.cell? ⟨gb266, 1, none⟩ = some (.int .i64 a1_1)) ∧ (Kd.R k25 25 w' w.heap.size (fun k_ => k_ ≠ gb265 ∧ k_ ≠ gb266) s_.1 t270) ∧ (w'.heap[gb265]? = some (.cells #[.int .i64 a0_0, .int .i64 a0_1] 25 (0, 0))) ∧ (w'.heap[gb266]? = some (.cells #[.int .i64 a1_0, .int .i64 a1_1] 25 (0, 0))) ∧ (w'.heap[gb267]? = some (.cells #[.int .i64 0, .int .i64 0, .bool false, .int .i64 0] 28 (0, 0))) ∧ (w'.heap[s_.2]? = some (.cells #[.int .i64 0, .int .i64 0, .bool false, .int .i64 0] 28 (0, 0))) ∧ (w.heap.size ≤ s_.2) ∧ (w.heap.size ≤ s_.2) ∧ (gb265 ≠ s_.2) ∧ (s_.2 ≠ gb265) ∧ (gb266 ≠ s_.2) ∧ (s_.2 ≠ gb266) ∧ (gb267 ≠ s_.2) ∧ (s_.2 ≠ gb267) ∧ (Below w.heap.size w w')) ?_ ?_
     rotate_left
     ·intro hCont
      refine two_ (i := 2) (j := 4) (Ni := some 17) (Nj := some 5) #[true, true, true, false, false, false] #[true, true, false, false, true, false] rfl rfl rfl rfl (by kernel_rfl) (by decide) (by decide) (fun K hK => ?_) (fun K hK => ?_)
      ·skip
       refine goes_ Try.func56 (by kernel_rfl) rfl #[.agg #[.int .i64 a1_0, .int .i64 a1_1]] (by rfl) rfl rfl (by (try simp only [List.map_toArray, List.map_cons, List.map_nil]); first | done | rfl | (simp only [List.length_drop, List.length_take]; rfl)) ?_
       with_reducible refine (spec_l2Parts.calls a1_0 a1_1 t270 _ A25.out).mono ?_
       rintro e w50 ⟨v271, rfl, ho0, hb⟩
       refine ⟨_, rfl, ?_⟩
       have n0_ := Aside0.mk (Kd.R_lower (Kd.R_newB (Kd.R_newB ho0 (bk BK265)) (bk BK266)) (below_size (bw HB)))
       have n1_ := bb BK265 hb
       have n2_ := bb BK266 hb
       have n3_ := bb BK267 hb
       have n4_ := bs HB hb
       clear BK265
       clear BK266
       clear BK267
       clear HB
       have HO272 := n0_
       have BK265 := n1_
       have BK266 := n2_
       have BK267 := n3_
       have HB := n4_
       clear n0_ n1_ n2_ n3_ n4_
       (try clear hb)
       (try clear hb2)
       (try clear hk)
       (try clear hi)
       (try clear ho0)
       obtain ⟨Ao51, co51, eo51⟩ := Kd.R_slice HO272.out
       (first | subst eo51 | (injection eo51 with f1_ f2_ f3_; have f4_ := f1_.symm; have f5_ := f3_.symm; clear f1_ f2_ f3_; subst f4_; subst f5_))
       refine hK.out _ _ ⟨(blk_cell BK265.out 0).trans rfl, (blk_cell BK265.out 1).trans rfl, (blk_cell BK266.out 0).trans rfl, (blk_cell BK266.out 1).trans rfl⟩ (fun hHeld => ?_)
       clear hK K
       refine norm_ (a' := ?_) ?_ ?_
       rotate_left
       ·show Act.put _ (some 17) _ = _
        simp only [Act.put, List.setIfInBounds_toArray, List.set_cons_zero, List.set_cons_succ, i64_w, i32_w]
        rfl
       refine two_ (i := 3) (j := 4) (Ni := some 18) (Nj := some 5) #[true, true, true, true, false, false] #[true, true, true, false, true, false] rfl rfl rfl rfl (by kernel_rfl) (by decide) (by decide) (fun K hK => ?_) (fun K hK => ?_)
       ·skip
        refine goes_ Try.func55 (by kernel_rfl) rfl #[.int .i64 47, .agg #[.int .i64 a0_0, .int .i64 a0_1], .slice Ao51 t270.length co51] (by rfl) rfl rfl (by (try simp only [List.map_toArray, List.map_cons, List.map_nil]); first | done | rfl | (simp only [List.length_drop, List.length_take]; rfl)) ?_
        with_reducible refine (spec_l2Box.calls kj2 47 a0_0 a0_1 _ _ t270 t273 t274 t275 t276 _ ?side1 ?side2 A26.out).mono ?_
        (case side1 => repeat (first | exact (Kd.R_reads' HO272.out).2.2 | (with_reducible refine Kd.C_alloc ?_ _) | (with_reducible refine Kd.C_drewN ?_ _) | (with_reducible refine Kd.C_drew ?_)))
        (case side2 => exact (Kd.R_reads' HO272.out).2.1)
        rintro e w52 ⟨rfl, hb⟩
        refine ⟨_, rfl, ?_⟩
        have n0_ := Aside0.mk (Kd.R_below (by (with_reducible repeat (first | apply Kd.R_alloc | apply Kd.R_drewN | apply Kd.R_drew)); exact HO272.out) hb)
        have n1_ := bb BK265 hb
        have n2_ := bb BK266 hb
        have n3_ := bb BK267 hb
        have n4_ := bs HB hb
        clear HO272
        clear BK265
        clear BK266
        clear BK267
        clear HB
        have HO272 := n0_
        have BK265 := n1_
        have BK266 := n2_
        have BK267 := n3_
        have HB := n4_
        clear n0_ n1_ n2_ n3_ n4_
        (try clear hb)
        (try clear hb2)
        (try clear hk)
        (try clear hi)
        refine hK.out _ _ ⟨(blk_cell BK265.out 0).trans rfl, (blk_cell BK265.out 1).trans rfl, (blk_cell BK266.out 0).trans rfl, (blk_cell BK266.out 1).trans rfl⟩ (fun hHeld => ?_)
        clear hK K
        refine norm_ (a' := ?_) ?_ ?_
        rotate_left
        ·show Act.put _ (some 18) _ = _
         simp only [Act.put, List.setIfInBounds_toArray, List.set_cons_zero, List.set_cons_succ, i64_w, i32_w]
         rfl
        refine one_ (i := 4) (N := some 5) #[true, true, true, true, true, false] rfl rfl (by kernel_rfl) (by decide) (fun K hK => ?_)
        refine box_step ?hg (N := 5) ?hd (cs := #[.int .i64 0, .int .i64 0, .bool false, .int .i64 0]) (t := 28) ?hr ?_; (case hd => rfl); (case hg => rfl); (case hr => first | (go_simp; done) | (go_simp; rfl))
        intro gb277 hg w53 hbox hb
        have n0_ := Aside0.mk (Kd.R_below (by (with_reducible repeat (first | apply Kd.R_alloc | apply Kd.R_drewN | apply Kd.R_drew)); exact HO272.out) hb)
        have n1_ := bb BK265 hb
        have n2_ := bb BK266 hb
        have n3_ := bb BK267 hb
        have n4_ := bs HB hb
        have n5_ := Aside0.mk (hbox)
        have n6_ := bz HB hg
        have n7_ := bz HB hg
        have n8_ := bl BK265 hg
        have n9_ := bg BK265 hg
        have n10_ := bl BK266 hg
        have n11_ := bg BK266 hg
        have n12_ := bl BK267 hg
        have n13_ := bg BK267 hg
        clear HO272
        clear BK265
        clear BK266
        clear BK267
        clear HB
        have HO272 := n0_
        have BK265 := n1_
        have BK266 := n2_
        have BK267 := n3_
        have HB := n4_
        have BK277 := n5_
        have GW277 := n6_
        have GE277 := n7_
        have NB265_277 := n8_
        have NB277_265 := n9_
        have NB266_277 := n10_
        have NB277_266 := n11_
        have NB267_277 := n12_
        have NB277_267 := n13_
        clear n0_ n1_ n2_ n3_ n4_ n5_ n6_ n7_ n8_ n9_ n10_ n11_ n12_ n13_
        clear hb hbox hg
        refine hK.out _ _ ⟨(blk_cell BK265.out 0).trans rfl, (blk_cell BK265.out 1).trans rfl, (blk_cell BK266.out 0).trans rfl, (blk_cell BK266.out 1).trans rfl⟩ (fun hHeld => ?_)
        clear hK K
        refine norm_ (a' := ?_) ?_ ?_
        rotate_left
        ·show Act.put _ (some 5) _ = _
         simp only [Act.put, List.setIfInBounds_toArray, List.set_cons_zero, List.set_cons_succ, i64_w, i32_w]
         rfl
        exact norm_ (by simp only [putAll, Act.put, List.setIfInBounds_toArray, List.set_cons_zero, List.set_cons_succ]) (hCont (.slice Ao51 t270.length co51, gb277) _ ⟨hHeld, (by (with_reducible repeat (first | apply Kd.R_alloc | apply Kd.R_drewN | apply Kd.R_drew)); exact Kd.R_mono HO272.out (fun _ hk => ⟨hk.1.2, hk.2⟩)), (bk BK265), (bk BK266), (bk BK267), (bk BK277), GW277.out, GE277.out, NB265_277.out, NB277_265.out, NB266_277.out, NB277_266.out, NB267_277.out, NB277_267.out, (bw HB)⟩)
       ·skip
        refine box_step ?hg (N := 5) ?hd (cs := #[.int .i64 0, .int .i64 0, .bool false, .int .i64 0]) (t := 28) ?hr ?_; (case hd => rfl); (case hg => rfl); (case hr => first | (go_simp; done) | (go_simp; rfl))
        intro gb277 hg w51 hbox hb
        have n0_ := Aside0.mk (Kd.R_below (by (with_reducible repeat (first | apply Kd.R_alloc | apply Kd.R_drewN | apply Kd.R_drew)); exact HO272.out) hb)
        have n1_ := bb BK265 hb
        have n2_ := bb BK266 hb
        have n3_ := bb BK267 hb
        have n4_ := bs HB hb
        have n5_ := Aside0.mk (hbox)
        have n6_ := bz HB hg
        have n7_ := bz HB hg
        have n8_ := bl BK265 hg
        have n9_ := bg BK265 hg
        have n10_ := bl BK266 hg
        have n11_ := bg BK266 hg
        have n12_ := bl BK267 hg
        have n13_ := bg BK267 hg
        clear HO272
        clear BK265
        clear BK266
        clear BK267
        clear HB
        have HO272 := n0_
        have BK265 := n1_
        have BK266 := n2_
        have BK267 := n3_
        have HB := n4_
        have BK277 := n5_
        have GW277 := n6_
        have GE277 := n7_
        have NB265_277 := n8_
        have NB277_265 := n9_
        have NB266_277 := n10_
        have NB277_266 := n11_
        have NB267_277 := n12_
        have NB277_267 := n13_
        clear n0_ n1_ n2_ n3_ n4_ n5_ n6_ n7_ n8_ n9_ n10_ n11_ n12_ n13_
        clear hb hbox hg
        obtain ⟨Ao52, co52, eo52⟩ := Kd.R_slice HO272.out
        (first | subst eo52 | (injection eo52 with f1_ f2_ f3_; have f4_ := f1_.symm; have f5_ := f3_.symm; clear f1_ f2_ f3_; subst f4_; subst f5_))
        refine hK.out _ _ ⟨(blk_cell BK265.out 0).trans rfl, (blk_cell BK265.out 1).trans rfl, (blk_cell BK266.out 0).trans rfl, (blk_cell BK266.out 1).trans rfl⟩ (fun hHeld => ?_)
        clear hK K
        refine norm_ (a' := ?_) ?_ ?_
        rotate_left
        ·show Act.put _ (some 5) _ = _
         simp only [Act.put, List.setIfInBounds_toArray, List.set_cons_zero, List.set_cons_succ, i64_w, i32_w]
         rfl
        refine one_ (i := 3) (N := some 18) #[true, true, true, true, true, false] rfl rfl (by kernel_rfl) (by decide) (fun K hK => ?_)
        refine goes_ Try.func55 (by kernel_rfl) rfl #[.int .i64 47, .agg #[.int .i64 a0_0, .int .i64 a0_1], .slice Ao52 t270.length co52] (by rfl) rfl rfl (by (try simp only [List.map_toArray, List.map_cons, List.map_nil]); first | done | rfl | (simp only [List.length_drop, List.length_take]; rfl)) ?_
        with_reducible refine (spec_l2Box.calls kj2 47 a0_0 a0_1 _ _ t270 t273 t274 t275 t276 _ ?side1 ?side2 A26.out).mono ?_
        (case side1 => repeat (first | exact (Kd.R_reads' HO272.out).2.2 | (with_reducible refine Kd.C_alloc ?_ _) | (with_reducible refine Kd.C_drewN ?_ _) | (with_reducible refine Kd.C_drew ?_)))
        (case side2 => exact (Kd.R_reads' HO272.out).2.1)
        rintro e w53 ⟨rfl, hb⟩
        refine ⟨_, rfl, ?_⟩
        have n0_ := Aside0.mk (Kd.R_below (by (with_reducible repeat (first | apply Kd.R_alloc | apply Kd.R_drewN | apply Kd.R_drew)); exact HO272.out) hb)
        have n1_ := bb BK265 hb
        have n2_ := bb BK266 hb
        have n3_ := bb BK267 hb
        have n4_ := bb BK277 hb
        have n5_ := bs HB hb
        clear HO272
        clear BK265
        clear BK266
        clear BK267
        clear BK277
        clear HB
        have HO272 := n0_
        have BK265 := n1_
        have BK266 := n2_
        have BK267 := n3_
        have BK277 := n4_
        have HB := n5_
        clear n0_ n1_ n2_ n3_ n4_ n5_
        (try clear hb)
        (try clear hb2)
        (try clear hk)
        (try clear hi)
        refine hK.out _ _ ⟨(blk_cell BK265.out 0).trans rfl, (blk_cell BK265.out 1).trans rfl, (blk_cell BK266.out 0).trans rfl, (blk_cell BK266.out 1).trans rfl⟩ (fun hHeld => ?_)
        clear hK K
        refine norm_ (a' := ?_) ?_ ?_
        rotate_left
        ·show Act.put _ (some 18) _ = _
         simp only [Act.put, List.setIfInBounds_toArray, List.set_cons_zero, List.set_cons_succ, i64_w, i32_w]
         rfl
        exact norm_ (by simp only [putAll, Act.put, List.setIfInBounds_toArray, List.set_cons_zero, List.set_cons_succ]) (hCont (.slice Ao52 t270.length co52, gb277) _ ⟨hHeld, (by (with_reducible repeat (first | apply Kd.R_alloc | apply Kd.R_drewN | apply Kd.R_drew)); exact Kd.R_mono HO272.out (fun _ hk => ⟨hk.1.2, hk.2⟩)), (bk BK265), (bk BK266), (bk BK267), (bk BK277), GW277.out, GE277.out, NB265_277.out, NB277_265.out, NB266_277.out, NB277_266.out, NB267_277.out, NB277_267.out, (bw HB)⟩)
      ·skip
       refine box_step ?hg (N := 5) ?hd (cs := #[.int .i64 0, .int .i64 0, .bool false, .int .i64 0]) (t := 28) ?hr ?_; (case hd => rfl); (case hg => rfl); (case hr => first | (go_simp; done) | (go_simp; rfl))
       intro gb277 hg w50 hbox hb
       have n0_ := bb BK265 hb
       have n1_ := bb BK266 hb
       have n2_ := bb BK267 hb
       have n3_ := bs HB hb
       have n4_ := Aside0.mk (hbox)
       have n5_ := bz HB hg
       have n6_ := bz HB hg
       have n7_ := bl BK265 hg
       have n8_ := bg BK265 hg
       have n9_ := bl BK266 hg
       have n10_ := bg BK266 hg
       have n11_ := bl BK267 hg
       have n12_ := bg BK267 hg
       clear BK265
       clear BK266
       clear BK267
       clear HB
       have BK265 := n0_
       have BK266 := n1_
       have BK267 := n2_
       have HB := n3_
       have BK277 := n4_
       have GW277 := n5_
       have GE277 := n6_
       have NB265_277 := n7_
       have NB277_265 := n8_
       have NB266_277 := n9_
       have NB277_266 := n10_
       have NB267_277 := n11_
       have NB277_267 := n12_
       clear n0_ n1_ n2_ n3_ n4_ n5_ n6_ n7_ n8_ n9_ n10_ n11_ n12_
       clear hb hbox hg
       refine hK.out _ _ ⟨(blk_cell BK265.out 0).trans rfl, (blk_cell BK265.out 1).trans rfl, (blk_cell BK266.out 0).trans rfl, (blk_cell BK266.out 1).trans rfl⟩ (fun hHeld => ?_)
       clear hK K
       refine norm_ (a' := ?_) ?_ ?_
       rotate_left
       ·show Act.put _ (some 5) _ = _
        simp only [Act.put, List.setIfInBounds_toArray, List.set_cons_zero, List.set_cons_succ, i64_w, i32_w]
        rfl
       refine one_ (i := 2) (N := some 17) #[true, true, true, false, true, false] rfl rfl (by kernel_rfl) (by decide) (fun K hK => ?_)
       refine goes_ Try.func56 (by kernel_rfl) rfl #[.agg #[.int .i64 a1_0, .int .i64 a1_1]] (by rfl) rfl rfl (by (try simp only [List.map_toArray, List.map_cons, List.map_nil]); first | done | rfl | (simp only [List.length_drop, List.length_take]; rfl)) ?_
       with_reducible refine (spec_l2Parts.calls a1_0 a1_1 t270 _ A25.out).mono ?_
       rintro e w51 ⟨v271, rfl, ho0, hb⟩
       refine ⟨_, rfl, ?_⟩
       have n0_ := Aside0.mk (Kd.R_lower (Kd.R_newB (Kd.R_newB ho0 (bk BK265)) (bk BK266)) (below_size (bw HB)))
       have n1_ := bb BK265 hb
       have n2_ := bb BK266 hb
       have n3_ := bb BK267 hb
       have n4_ := bb BK277 hb
       have n5_ := bs HB hb
       clear BK265
       clear BK266
       clear BK267
       clear BK277
       clear HB
       have HO272 := n0_
       have BK265 := n1_
       have BK266 := n2_
       have BK267 := n3_
       have BK277 := n4_
       have HB := n5_
       clear n0_ n1_ n2_ n3_ n4_ n5_
       (try clear hb)
       (try clear hb2)
       (try clear hk)
       (try clear hi)
       (try clear ho0)
       obtain ⟨Ao52, co52, eo52⟩ := Kd.R_slice HO272.out
       (first | subst eo52 | (injection eo52 with f1_ f2_ f3_; have f4_ := f1_.symm; have f5_ := f3_.symm; clear f1_ f2_ f3_; subst f4_; subst f5_))
       refine hK.out _ _ ⟨(blk_cell BK265.out 0).trans rfl, (blk_cell BK265.out 1).trans rfl, (blk_cell BK266.out 0).trans rfl, (blk_cell BK266.out 1).trans rfl⟩ (fun hHeld => ?_)
       clear hK K
       refine norm_ (a' := ?_) ?_ ?_
       rotate_left
       ·show Act.put _ (some 17) _ = _
        simp only [Act.put, List.setIfInBounds_toArray, List.set_cons_zero, List.set_cons_succ, i64_w, i32_w]
        rfl
       refine one_ (i := 3) (N := some 18) #[true, true, true, true, true, false] rfl rfl (by kernel_rfl) (by decide) (fun K hK => ?_)
       refine goes_ Try.func55 (by kernel_rfl) rfl #[.int .i64 47, .agg #[.int .i64 a0_0, .int .i64 a0_1], .slice Ao52 t270.length co52] (by rfl) rfl rfl (by (try simp only [List.map_toArray, List.map_cons, List.map_nil]); first | done | rfl | (simp only [List.length_drop, List.length_take]; rfl)) ?_
       with_reducible refine (spec_l2Box.calls kj2 47 a0_0 a0_1 _ _ t270 t273 t274 t275 t276 _ ?side1 ?side2 A26.out).mono ?_
       (case side1 => repeat (first | exact (Kd.R_reads' HO272.out).2.2 | (with_reducible refine Kd.C_alloc ?_ _) | (with_reducible refine Kd.C_drewN ?_ _) | (with_reducible refine Kd.C_drew ?_)))
       (case side2 => exact (Kd.R_reads' HO272.out).2.1)
       rintro e w53 ⟨rfl, hb⟩
       refine ⟨_, rfl, ?_⟩
       have n0_ := Aside0.mk (Kd.R_below (by (with_reducible repeat (first | apply Kd.R_alloc | apply Kd.R_drewN | apply Kd.R_drew)); exact HO272.out) hb)
       have n1_ := bb BK265 hb
       have n2_ := bb BK266 hb
       have n3_ := bb BK267 hb
       have n4_ := bb BK277 hb
       have n5_ := bs HB hb
       clear HO272
       clear BK265
       clear BK266
       clear BK267
       clear BK277
       clear HB
       have HO272 := n0_
       have BK265 := n1_
       have BK266 := n2_
       have BK267 := n3_
       have BK277 := n4_
       have HB := n5_
       clear n0_ n1_ n2_ n3_ n4_ n5_
       (try clear hb)
       (try clear hb2)
       (try clear hk)
       (try clear hi)
       refine hK.out _ _ ⟨(blk_cell BK265.out 0).trans rfl, (blk_cell BK265.out 1).trans rfl, (blk_cell BK266.out 0).trans rfl, (blk_cell BK266.out 1).trans rfl⟩ (fun hHeld => ?_)
       clear hK K
       refine norm_ (a' := ?_) ?_ ?_
       rotate_left
       ·show Act.put _ (some 18) _ = _
        simp only [Act.put, List.setIfInBounds_toArray, List.set_cons_zero, List.set_cons_succ, i64_w, i32_w]
        rfl
       exact norm_ (by simp only [putAll, Act.put, List.setIfInBounds_toArray, List.set_cons_zero, List.set_cons_succ]) (hCont (.slice Ao52 t270.length co52, gb277) _ ⟨hHeld, (by (with_reducible repeat (first | apply Kd.R_alloc | apply Kd.R_drewN | apply Kd.R_drew)); exact Kd.R_mono HO272.out (fun _ hk => ⟨hk.1.2, hk.2⟩)), (bk BK265), (bk BK266), (bk BK267), (bk BK277), GW277.out, GE277.out, NB265_277.out, NB277_265.out, NB266_277.out, NB277_266.out, NB267_277.out, NB277_267.out, (bw HB)⟩)
     rintro ⟨v271, gb277⟩ w54 ⟨hS_, h0_, h1_, h2_, h3_, h4_, h5_, h6_, h7_, h8_, h9_, h10_, h11_, h12_, h13_⟩
     have n0_ : Aside0 (Kd.R k25 25 w54 w.heap.size (fun k_ => k_ ≠ gb265 ∧ k_ ≠ gb266) v271 t270) := ⟨h0_⟩
     have n1_ : Aside0 (w54.heap[gb265]? = some (.cells #[.int .i64 a0_0, .int .i64 a0_1] 25 (0, 0))) := ⟨h1_⟩
     have n2_ : Aside0 (w54.heap[gb266]? = some (.cells #[.int .i64 a1_0, .int .i64 a1_1] 25 (0, 0))) := ⟨h2_⟩
     have n3_ : Aside0 (w54.heap[gb267]? = some (.cells #[.int .i64 0, .int .i64 0, .bool false, .int .i64 0] 28 (0, 0))) := ⟨h3_⟩
     have n4_ : Aside0 (w54.heap[gb277]? = some (.cells #[.int .i64 0, .int .i64 0, .bool false, .int .i64 0] 28 (0, 0))) := ⟨h4_⟩
     have n5_ : Aside0 (w.heap.size ≤ gb277) := ⟨h5_⟩
     have n6_ : Aside0 (w.heap.size ≤ gb277) := ⟨h6_⟩
     have n7_ : Aside0 (gb265 ≠ gb277) := ⟨h7_⟩
     have n8_ : Aside0 (gb277 ≠ gb265) := ⟨h8_⟩
     have n9_ : Aside0 (gb266 ≠ gb277) := ⟨h9_⟩
     have n10_ : Aside0 (gb277 ≠ gb266) := ⟨h10_⟩
     have n11_ : Aside0 (gb267 ≠ gb277) := ⟨h11_⟩
     have n12_ : Aside0 (gb277 ≠ gb267) := ⟨h12_⟩
     have n13_ : Aside0 (Below w.heap.size w w54) := ⟨h13_⟩
     clear BK265
     clear BK266
     clear BK267
     clear HB
     clear h0_ h1_ h2_ h3_ h4_ h5_ h6_ h7_ h8_ h9_ h10_ h11_ h12_ h13_
     have HO272 := n0_
     have BK265 := n1_
     have BK266 := n2_
     have BK267 := n3_
     have BK277 := n4_
     have GW277 := n5_
     have GE277 := n6_
     have NB265_277 := n7_
     have NB277_265 := n8_
     have NB266_277 := n9_
     have NB277_266 := n10_
     have NB267_277 := n11_
     have NB277_267 := n12_
     have HB := n13_
     clear n0_ n1_ n2_ n3_ n4_ n5_ n6_ n7_ n8_ n9_ n10_ n11_ n12_ n13_
     have hHeld : w54.cell? ⟨gb265, 0, none⟩ = some (.int .i64 a0_0) ∧ w54.cell? ⟨gb265, 1, none⟩ = some (.int .i64 a0_1) ∧ w54.cell? ⟨gb266, 0, none⟩ = some (.int .i64 a1_0) ∧ w54.cell? ⟨gb266, 1, none⟩ = some (.int .i64 a1_1) := hS_
     refine norm_ (a' := ?_) ?_ ?_
     rotate_left
     ·simp only [putAll, Act.put, List.setIfInBounds_toArray, List.set_cons_zero, List.set_cons_succ]
      rfl
     refine one_ (i := 5) (N := none) #[true, true, true, true, true, true] rfl rfl (by kernel_rfl) (by decide) (fun K hK => ?_)
     have hs55 : w54.cell? ⟨gb277, 0, none⟩ = some (.int .i64 0) := (blk_cell BK277.out 0).trans rfl
     have hfs55 := blk_frozen BK277.out 0
     have hns55_0 := NB265_277.out
     have hns55_1 := NB266_277.out
     have hns55_2 := NB267_277.out
     have hms55_0 := NB277_265.out
     have hms55_1 := NB277_266.out
     have hms55_2 := NB277_267.out
     have hs56 : w54.cell? ⟨gb277, 1, none⟩ = some (.int .i64 0) := (blk_cell BK277.out 1).trans rfl
     have hfs56 := blk_frozen BK277.out 1
     have hns56_0 := NB265_277.out
     have hns56_1 := NB266_277.out
     have hns56_2 := NB267_277.out
     have hms56_0 := NB277_265.out
     have hms56_1 := NB277_266.out
     have hms56_2 := NB277_267.out
     have hs57 : w54.cell? ⟨gb277, 2, none⟩ = some (.bool false) := (blk_cell BK277.out 2).trans rfl
     have hfs57 := blk_frozen BK277.out 2
     have hns57_0 := NB265_277.out
     have hns57_1 := NB266_277.out
     have hns57_2 := NB267_277.out
     have hms57_0 := NB277_265.out
     have hms57_1 := NB277_266.out
     have hms57_2 := NB277_267.out
     have hs58 : w54.cell? ⟨gb277, 3, none⟩ = some (.int .i64 0) := (blk_cell BK277.out 3).trans rfl
     have hfs58 := blk_frozen BK277.out 3
     have hns58_0 := NB265_277.out
     have hns58_1 := NB266_277.out
     have hns58_2 := NB267_277.out
     have hms58_0 := NB277_265.out
     have hms58_1 := NB277_266.out
     have hms58_2 := NB277_267.out
     refine skip_ (w1 := ?_) (by rfl) rfl ?_ ?_
     rotate_left
     ·go_simp
      rfl
     refine hK.out _ _ ⟨((cell_far (p := ⟨gb277, _, none⟩) NB265_277.out _).trans (((cell_far (p := ⟨gb277, _, none⟩) NB265_277.out _).trans (((cell_far (p := ⟨gb277, _, none⟩) NB265_277.out _).trans (((cell_far (p := ⟨gb277, _, none⟩) NB265_277.out _).trans (hHeld.1)))))))), ((cell_far (p := ⟨gb277, _, none⟩) NB265_277.out _).trans (((cell_far (p := ⟨gb277, _, none⟩) NB265_277.out _).trans (((cell_far (p := ⟨gb277, _, none⟩) NB265_277.out _).trans (((cell_far (p := ⟨gb277, _, none⟩) NB265_277.out _).trans (hHeld.2.1)))))))), ((cell_far (p := ⟨gb277, _, none⟩) NB266_277.out _).trans (((cell_far (p := ⟨gb277, _, none⟩) NB266_277.out _).trans (((cell_far (p := ⟨gb277, _, none⟩) NB266_277.out _).trans (((cell_far (p := ⟨gb277, _, none⟩) NB266_277.out _).trans (hHeld.2.2.1)))))))), ((cell_far (p := ⟨gb277, _, none⟩) NB266_277.out _).trans (((cell_far (p := ⟨gb277, _, none⟩) NB266_277.out _).trans (((cell_far (p := ⟨gb277, _, none⟩) NB266_277.out _).trans (((cell_far (p := ⟨gb277, _, none⟩) NB266_277.out _).trans (hHeld.2.2.2))))))))⟩ (fun hHeld => ?_)
     clear hK K
     refine done_ (by kernel_rfl) ?_
     have hnb59 := NB266_265.out
     have hnc59 := NB265_266.out
     have hnb60 := NB266_267.out
     have hnc60 := NB267_266.out
     have hnb61 := NB266_277.out
     have hnc61 := NB277_266.out
     have hcz62_0 : w54.cell? ⟨gb266, 0, none⟩ = some (.int .i64 a1_0) := (blk_cell BK266.out 0).trans rfl
     have hcz62_1 : w54.cell? ⟨gb266, 1, none⟩ = some (.int .i64 a1_1) := (blk_cell BK266.out 1).trans rfl
     have hfz62_0 := blk_frozen BK266.out 0
     have hfz62_1 := blk_frozen BK266.out 1
     try go_wp2_with (first | ((with_reducible refine gate_callee (f := 57) rfl ?_); refine goesL_ (some 20) rfl rfl Try.func57 (by kernel_rfl) rfl #[.agg #[.int .i64 a1_0, .int .i64 a1_1], .int .i64 0] rfl (by (try simp only [List.map_toArray, List.map_cons, List.map_nil]); first | done | rfl | (simp only [List.length_drop, List.length_take]; rfl)) ?_; (with_reducible refine (spec_IvHas.calls a1_0 a1_1 0 false _ A27.out).mono ?_); rintro e w63 ⟨rfl, hb⟩; refine ⟨_, rfl, ?_⟩; have n0_ := Aside0.mk (Kd.R_below (by (with_reducible repeat (first | apply Kd.R_alloc | apply Kd.R_drewN | apply Kd.R_drew)); exact (Kd.R_mono (Kd.R_far (p := ⟨gb277, 3, none⟩) (Kd.R_far (p := ⟨gb277, 2, none⟩) (Kd.R_far (p := ⟨gb277, 1, none⟩) (Kd.R_far (p := ⟨gb277, 0, none⟩) (Kd.R_types HO272.out BK277.out (by decide)) (fun _ hk => hk.2) (.int .i64 t273)) (fun _ hk => hk.2) (.int .i64 t274)) (fun _ hk => hk.2) (.bool t275)) (fun _ hk => hk.2) (.int .i64 t276)) (fun _ h_ => h_.1))) hb); have n1_ := Aside0.mk (blk_below (g := gb265) (o := .cells #[.int .i64 a0_0, .int .i64 a0_1] 25 (0, 0)) (bx BK265) hb); have n2_ := Aside0.mk (blk_below (g := gb266) (o := .cells #[.int .i64 a1_0, .int .i64 a1_1] 25 (0, 0)) (bx BK266) hb); have n3_ := Aside0.mk (blk_below (g := gb267) (o := .cells #[.int .i64 0, .int .i64 0, .bool false, .int .i64 0] 28 (0, 0)) (bx BK267) hb); have n4_ := Aside0.mk (blk_below (g := gb277) (o := .cells #[.int .i64 t273, .int .i64 t274, .bool t275, .int .i64 t276] 28 (0, 0)) (by (with_reducible repeat (first | refine blk_drewN ?_ _ | refine blk_drew ?_ | refine blk_alloc ?_ _)); refine blk_put (cs := #[.int .i64 t273, .int .i64 t274, .bool t275, .int .i64 0]) ?_ 3 _ rfl; (with_reducible repeat (first | refine blk_drewN ?_ _ | refine blk_drew ?_ | refine blk_alloc ?_ _)); refine blk_put (cs := #[.int .i64 t273, .int .i64 t274, .bool false, .int .i64 0]) ?_ 2 _ rfl; (with_reducible repeat (first | refine blk_drewN ?_ _ | refine blk_drew ?_ | refine blk_alloc ?_ _)); refine blk_put (cs := #[.int .i64 t273, .int .i64 0, .bool false, .int .i64 0]) ?_ 1 _ rfl; (with_reducible repeat (first | refine blk_drewN ?_ _ | refine blk_drew ?_ | refine blk_alloc ?_ _)); refine blk_put (cs := #[.int .i64 0, .int .i64 0, .bool false, .int .i64 0]) ?_ 0 _ rfl; (with_reducible repeat (first | refine blk_drewN ?_ _ | refine blk_drew ?_ | refine blk_alloc ?_ _)); exact BK277.out) hb); have n5_ := bs HB hb; clear HO272; clear BK265; clear BK266; clear BK267; clear BK277; clear HB; have HO272 := n0_; have BK265 := n1_; have BK266 := n2_; have BK267 := n3_; have BK277 := n4_; have HB := n5_; clear n0_ n1_ n2_ n3_ n4_ n5_; (try clear hb); (try clear hb2); (try clear hk); (try clear hi); have hnb64 := NB277_265.out; have hnc64 := NB265_277.out; have hnb65 := NB277_267.out; have hnc65 := NB267_277.out; have hcz66_0 : w63.cell? ⟨gb277, 0, none⟩ = some (.int .i64 t273) := (blk_cell BK277.out 0).trans rfl; have hcz66_1 : w63.cell? ⟨gb277, 1, none⟩ = some (.int .i64 t274) := (blk_cell BK277.out 1).trans rfl; have hcz66_2 : w63.cell? ⟨gb277, 2, none⟩ = some (.bool t275) := (blk_cell BK277.out 2).trans rfl; have hcz66_3 : w63.cell? ⟨gb277, 3, none⟩ = some (.int .i64 t276) := (blk_cell BK277.out 3).trans rfl; have hfz66_0 := blk_frozen BK277.out 0; have hfz66_1 := blk_frozen BK277.out 1; have hfz66_2 := blk_frozen BK277.out 2; have hfz66_3 := blk_frozen BK277.out 3; have hnb67 := NB267_265.out; have hnc67 := NB265_267.out; have hcz68_0 : w63.cell? ⟨gb267, 0, none⟩ = some (.int .i64 0) := (blk_cell BK267.out 0).trans rfl; have hcz68_1 : w63.cell? ⟨gb267, 1, none⟩ = some (.int .i64 0) := (blk_cell BK267.out 1).trans rfl; have hcz68_2 : w63.cell? ⟨gb267, 2, none⟩ = some (.bool false) := (blk_cell BK267.out 2).trans rfl; have hcz68_3 : w63.cell? ⟨gb267, 3, none⟩ = some (.int .i64 0) := (blk_cell BK267.out 3).trans rfl; have hfz68_0 := blk_frozen BK267.out 0; have hfz68_1 := blk_frozen BK267.out 1; have hfz68_2 := blk_frozen BK267.out 2; have hfz68_3 := blk_frozen BK267.out 3))
     refine bodyPost_ret (results_cell_row rfl _ _ gb267 28 #[.int .i64 t273, .int .i64 t274, .bool t275, .int .i64 t276] (0, 0) _ rfl (by (with_reducible repeat (first | refine blk_drewN ?_ _ | refine blk_drew ?_ | refine blk_alloc ?_ _)); refine blk_put (cs := #[.int .i64 t273, .int .i64 t274, .bool t275, .int .i64 0]) ?_ 3 _ rfl; (with_reducible repeat (first | refine blk_drewN ?_ _ | refine blk_drew ?_ | refine blk_alloc ?_ _)); refine blk_put (cs := #[.int .i64 t273, .int .i64 t274, .bool false, .int .i64 0]) ?_ 2 _ rfl; (with_reducible repeat (first | refine blk_drewN ?_ _ | refine blk_drew ?_ | refine blk_alloc ?_ _)); refine blk_put (cs := #[.int .i64 t273, .int .i64 0, .bool false, .int .i64 0]) ?_ 1 _ rfl; (with_reducible repeat (first | refine blk_drewN ?_ _ | refine blk_drew ?_ | refine blk_alloc ?_ _)); refine blk_put (cs := #[.int .i64 0, .int .i64 0, .bool false, .int .i64 0]) ?_ 0 _ rfl; (with_reducible repeat (first | refine blk_drewN ?_ _ | refine blk_drew ?_ | refine blk_alloc ?_ _)); exact BK267.out) Try.underlying28 rfl (by kernel_rfl)) rfl ?_
     exact ⟨by first | rfl | (simp [errW_none, errW_some] <;> rfl) | (simp [*, errW_none, errW_some] <;> rfl), bw HB⟩

end Go.Proofs.Ytdjhalelgknnkaa.Q
