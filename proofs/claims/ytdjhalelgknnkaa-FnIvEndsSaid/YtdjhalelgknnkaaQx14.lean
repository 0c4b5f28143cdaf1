-- Contracts of the program's functions, each with the plain function that it computes.
import Derived.Test.YtdjhalelgknnkaaQx0
import Derived.Test.YtdjhalelgknnkaaQx12
import Derived.Test.YtdjhalelgknnkaaQx13
namespace Go.Proofs.Ytdjhalelgknnkaa.Q
open Go.RowKit Go.Proofs.YtdjhalelgknnkaaW.PrintWords Go.Proofs.YtdjhalelgknnkaaW.PrintLast Go.Proofs.YtdjhalelgknnkaaW.PrintMore
attribute [local go_sem] max2_int min2_int max_two min_two max_three min_three max_four min_four   -- for this text's walks alone
set_option linter.unusedVariables false
set_option linter.unusedSimpArgs false

/-! ### impl_divisors: function 52 -/
def impl_divisors.j0 : Nat → List (S25) → Int → Int → Option ((List (S25)) × Int)
 | 0, _, _, _ => none
 | k + 1, x4, x190000, x190001 => (impl_IvMeet.f x190000 x190001 1 9223372036854775807).bind fun bt197 => (if bt197.2.2 = true then (if x4.length < 8796093022208 then ((some (x4 ++ [(⟨bt197.1, bt197.2.1⟩ : S25)] : List (S25))).bind fun y201 => ((impl_Interval_has.f x190000 x190001 0).bind fun t204 => (if t204 = true then (some (y201, 1)) else (some (y201, 0))))) else (none)) else ((impl_Interval_has.f x190000 x190001 0).bind fun t205 => (if t205 = true then (some (x4, 1)) else (some (x4, 0)))))
def impl_divisors.f (k : Nat) (a0_0 : Int) (a0_1 : Int) : Option ((List (S25)) × Int) := (impl_IvMeet.f a0_0 a0_1 (-9223372036854775808) (-1)).bind fun bt190 => (if bt190.2.2 = true then (if ([] : List (S25)).length < 8796093022208 then (impl_divisors.j0 k (([] : List (S25)) ++ [(⟨bt190.1, bt190.2.1⟩ : S25)]) a0_0 a0_1) else (none)) else (impl_divisors.j0 k ([] : List (S25)) a0_0 a0_1))
theorem impl_divisors.mono_l : ∀ k, (∀ y0 y1 y2, LeO (impl_divisors.j0 k y0 y1 y2) (impl_divisors.j0 (k + 1) y0 y1 y2))
 | 0 => fun _ _ _ r h => by simp [impl_divisors.j0] at h
 | k + 1 => by
  have ih0 := impl_divisors.mono_l k
  ·intro y0 y1 y2
   unfold impl_divisors.j0
   repeat' first
   | (with_reducible exact ih0 _ _ _)
   | (with_reducible exact LeO.refl _)
   | (with_reducible exact LeO.none _)
   | (with_reducible refine LeO.ite ?_ ?_)
   | (with_reducible refine LeO.bind ?_ (fun _ => ?_))
   | exact ih0 _ _ _
   | exact LeO.none _
   | refine LeO.ite ?_ ?_
   | refine LeO.bind ?_ (fun _ => ?_)
theorem impl_divisors.mono : ∀ a0 a1 k, LeO (impl_divisors.f k a0 a1) (impl_divisors.f (k + 1) a0 a1) := by
 intro a0 a1 k
 have ih0 := impl_divisors.mono_l k
 unfold impl_divisors.f
 repeat' first
   | (with_reducible exact ih0 _ _ _)
   | (with_reducible exact LeO.refl _)
   | (with_reducible exact LeO.none _)
   | (with_reducible refine LeO.ite ?_ ?_)
   | (with_reducible refine LeO.bind ?_ (fun _ => ?_))
   | exact ih0 _ _ _
   | exact LeO.none _
   | refine LeO.ite ?_ ?_
   | refine LeO.bind ?_ (fun _ => ?_)
set_option maxHeartbeats 8000000 in
set_option maxRecDepth 100000 in
theorem impl_divisors.calls (k : Nat) (a0_0 : Int) (a0_1 : Int) (r1 : List (S25)) (r2 : Int) (w : World) (h : impl_divisors.f k a0_0 a0_1 = some (r1, r2)) :
  Calls Try.prog 52 #[.agg #[.int .i64 a0_0, .int .i64 a0_1]] w fun e w' => ∃ v0_ : Value, e = .returned (.tuple #[v0_, .int .i64 r2]) ∧ Kd.R k25 25 w' w.heap.size (fun _ => True) v0_ r1 ∧ Below w.heap.size w w' := by
 have hu25 := Try.underlying25
 have HB := Aside0.mk (Below.refl w.heap.size w)
 have H : ((impl_IvMeet.f a0_0 a0_1 (-9223372036854775808) (-1)).bind fun bt190 => (if bt190.2.2 = true then (if ([] : List (S25)).length < 8796093022208 then (impl_divisors.j0 k (([] : List (S25)) ++ [(⟨bt190.1, bt190.2.1⟩ : S25)]) a0_0 a0_1) else (none)) else (impl_divisors.j0 k ([] : List (S25)) a0_0 a0_1))) = some (r1, r2) := h
 clear h
 replace H := Option.bind_eq_some_iff.mp H
 obtain ⟨⟨t190, t191, t192⟩, A20, H⟩ := H
 replace H : (if t192 = true then (if ([] : List (S25)).length < 8796093022208 then (impl_divisors.j0 k (([] : List (S25)) ++ [(⟨t190, t191⟩ : S25)]) a0_0 a0_1) else (none)) else (impl_divisors.j0 k ([] : List (S25)) a0_0 a0_1)) = some (r1, r2) := H
 have A2 := Aside0.mk A20
 clear A20
 have HC3 := Aside0.mk H
 clear H
 go_enter Try.func52, Try.ntmps52
 go_upto_if 15 with (first | ((with_reducible refine gate_dst (N := 1) rfl ?_); refine box_event rfl rfl (cs := #[.int .i64 a0_0, .int .i64 a0_1]) (t := 25) (by first | (go_simp; done) | (go_simp; rfl)) ?_; intro gb189 hg w4 hbox hb; have BK189 := Aside0.mk (hbox); have GW189 := bz HB hg; have GE189 := bz HB hg; replace HB := bs HB hb; clear hb hbox hg; have hcz5_0 : w4.cell? ⟨gb189, 0, none⟩ = some (.int .i64 a0_0) := (blk_cell BK189.out 0).trans rfl; have hcz5_1 : w4.cell? ⟨gb189, 1, none⟩ = some (.int .i64 a0_1) := (blk_cell BK189.out 1).trans rfl; have hfz5_0 := blk_frozen BK189.out 0; have hfz5_1 := blk_frozen BK189.out 1) | ((with_reducible refine gate_callee (f := 69) rfl ?_); refine goesL_ (some 12) rfl rfl Try.func69 (by kernel_rfl) rfl #[.agg #[.int .i64 a0_0, .int .i64 a0_1], .agg #[.int .i64 (-9223372036854775808), .int .i64 (-1)]] rfl (by (try simp only [List.map_toArray, List.map_cons, List.map_nil]); first | done | rfl | (simp only [List.length_drop, List.length_take]; rfl)) ?_; (with_reducible refine (impl_IvMeet.calls a0_0 a0_1 (-9223372036854775808) (-1) t190 t191 t192 _ A2.out).mono ?_); rintro e w6 ⟨rfl, hb⟩; refine ⟨_, rfl, ?_⟩; replace BK189 := bb BK189 hb; replace HB := bs HB hb; (try clear hb); (try clear hb2); (try clear hk); (try clear hi)) | ((with_reducible refine gate_dst (N := 5) rfl ?_); refine box_event rfl rfl (cs := #[.int .i64 0, .int .i64 0]) (t := 25) (by first | (go_simp; done) | (go_simp; rfl)) ?_; intro gb193 hg w7 hbox hb; have BK193 := Aside0.mk (hbox); have GW193 := bz HB hg; have GE193 := bz HB hg; replace HB := bs HB hb; have NB189_193 := bl BK189 hg; have NB193_189 := bg BK189 hg; replace BK189 := bb BK189 hb; clear hb hbox hg; have hnb8 := NB193_189.out; have hnc8 := NB189_193.out; have hcz9_0 : w7.cell? ⟨gb193, 0, none⟩ = some (.int .i64 0) := (blk_cell BK193.out 0).trans rfl; have hcz9_1 : w7.cell? ⟨gb193, 1, none⟩ = some (.int .i64 0) := (blk_cell BK193.out 1).trans rfl; have hfz9_0 := blk_frozen BK193.out 0; have hfz9_1 := blk_frozen BK193.out 1))
 (try simp only [Act.put, List.setIfInBounds_toArray, List.set_cons_zero, List.set_cons_succ])
 go_cut [4] (fun v4 wc => ∃ (kq : Nat) (x4_2 : List (S25)), Aside0 (impl_divisors.j0 kq x4_2 a0_0 a0_1 = some (r1, r2)) ∧ Aside0 (kq ≤ k) ∧ Aside0 (Kd.R k25 25 wc w.heap.size (fun k_ => k_ ≠ gb189 ∧ k_ ≠ gb193) v4 x4_2) ∧ Aside0 (wc.heap[gb189]? = some (.cells #[.int .i64 a0_0, .int .i64 a0_1] 25 (0, 0))) ∧ Aside0 (wc.heap[gb193]? = some (.cells #[.int .i64 t190, .int .i64 t191] 25 (0, 0))) ∧ Aside0 (Below w.heap.size w wc))
 case first =>
  have H := HC3.out
  clear HC3
  by_cases c10 : t192 = true
  ·subst c10
   have H1 : (if ([] : List (S25)).length < 8796093022208 then (impl_divisors.j0 k (([] : List (S25)) ++ [(⟨t190, t191⟩ : S25)]) a0_0 a0_1) else (none)) = some (r1, r2) := by rw [if_pos rfl] at H; exact H
   clear H
   have H := H1
   clear H1
   by_cases c11 : ([] : List (S25)).length < 8796093022208
   ·rw [if_pos c11] at H
    have LMc11 := Aside0.mk c11
    clear c11
    obtain ⟨y194, hy194⟩ : ∃ y_ : List (S25), y_ = (([] : List (S25)) ++ [(⟨t190, t191⟩ : S25)]) := ⟨_, rfl⟩
    replace H : (impl_divisors.j0 k y194 a0_0 a0_1) = some (r1, r2) := by first | (rw [hy194]; with_reducible exact H) | (have H2_ := (Option.bind_some _ _).symm.trans H; rw [hy194]; with_reducible exact H2_) | (have H2_ := (Option.bind_some _ _).symm.trans H; with_reducible exact H2_) | with_reducible exact H | (rw [hy194]; exact H) | exact H
    have Ny194 := Aside0.mk hy194
    clear hy194
    have H' := Aside0.mk H
    clear H
    have hnb12 := NB193_189.out
    have hnc12 := NB189_193.out
    have hcz13_0 : w7.cell? ⟨gb193, 0, none⟩ = some (.int .i64 0) := (blk_cell BK193.out 0).trans rfl
    have hcz13_1 : w7.cell? ⟨gb193, 1, none⟩ = some (.int .i64 0) := (blk_cell BK193.out 1).trans rfl
    have hfz13_0 := blk_frozen BK193.out 0
    have hfz13_1 := blk_frozen BK193.out 1
    go_wp2_with (((with_reducible refine gate_builtin (b := .append) (xs := #[.tmp 16, .tmp 18]) rfl ?_); at_builtin; refine Kd.R_append k25 (w0 := w) w.heap.size rfl (.tmp 16) (.tmp 18) 58 25 (.agg #[(.int .i64 0), (.int .i64 0)]) 16 rfl Try.underlying58 info25 rfl (by decide) (by omega) (.slice none 0 0) ([] : List (S25)) (⟨t190, t191⟩ : S25) [.int .i64 t190, .int .i64 t191] (fun k_ => k_ ≠ gb189 ∧ k_ ≠ gb193) (fun _ => False) rfl (by first | (go_simp; done) | (go_simp; rfl)) ?aP (fun _ hk => hk.elim) ?aF ?aO ?aB ?aS ?aL ?_; (case aP => exact k25_mkM _ _ _ (⟨t190, t191⟩ : S25)); (case aB => exact (bw HB)); (case aF => exact (fun k_ hk => ⟨Kd.freshB (g := gb189) (o := .cells #[.int .i64 a0_0, .int .i64 a0_1] 25 (0, 0)) (bx BK189) k_ hk, Kd.freshB (g := gb193) (o := .cells #[.int .i64 t190, .int .i64 t191] 25 (0, 0)) (by (with_reducible repeat (first | refine blk_drewN ?_ _ | refine blk_drew ?_ | refine blk_alloc ?_ _)); refine blk_put (cs := #[.int .i64 t190, .int .i64 0]) ?_ 1 _ rfl; (with_reducible repeat (first | refine blk_drewN ?_ _ | refine blk_drew ?_ | refine blk_alloc ?_ _)); refine blk_put (cs := #[.int .i64 0, .int .i64 0]) ?_ 0 _ rfl; (with_reducible repeat (first | refine blk_drewN ?_ _ | refine blk_drew ?_ | refine blk_alloc ?_ _)); exact BK193.out) k_ hk⟩)); (case aO => exact ((Kd.R_nil _ _ _ _ (fun k_ => k_ ≠ gb189 ∧ k_ ≠ gb193)))); (case aS => exact (below_size (bw HB))); (case aL => have := LMc11.out; omega); intro v195 w14 ho hb hg hat; rw [← Ny194.out] at ho; replace BK189 := Aside0.mk (blk_grown (g := gb189) (o := .cells #[.int .i64 a0_0, .int .i64 a0_1] 25 (0, 0)) (bx BK189) hg (by simp [Value.ownBlock])); replace BK193 := Aside0.mk (blk_grown (g := gb193) (o := .cells #[.int .i64 t190, .int .i64 t191] 25 (0, 0)) (by (with_reducible repeat (first | refine blk_drewN ?_ _ | refine blk_drew ?_ | refine blk_alloc ?_ _)); refine blk_put (cs := #[.int .i64 t190, .int .i64 0]) ?_ 1 _ rfl; (with_reducible repeat (first | refine blk_drewN ?_ _ | refine blk_drew ?_ | refine blk_alloc ?_ _)); refine blk_put (cs := #[.int .i64 0, .int .i64 0]) ?_ 0 _ rfl; (with_reducible repeat (first | refine blk_drewN ?_ _ | refine blk_drew ?_ | refine blk_alloc ?_ _)); exact BK193.out) hg (by simp [Value.ownBlock])); replace HB := Aside0.mk (hb); have HO196 := Aside0.mk (ho); clear ho hb hg hat))
    go_meet
    case rel => exact ⟨_, (y194), H', ⟨by first | omega | exact Nat.le_refl _⟩, ⟨by (with_reducible repeat (first | apply Kd.R_alloc | apply Kd.R_drewN | apply Kd.R_drew)); exact HO196.out⟩, ⟨bx BK189⟩, ⟨bx BK193⟩, ⟨bw HB⟩⟩
   ·rw [if_neg c11] at H
    exact absurd H (by simp)
  ·replace c10 := Bool.eq_false_iff.mpr c10
   subst c10
   have H1 : (impl_divisors.j0 k ([] : List (S25)) a0_0 a0_1) = some (r1, r2) := by rw [if_neg (show ¬ (false = true) by decide)] at H; exact H
   clear H
   have H := H1
   clear H1
   have H' := Aside0.mk H
   clear H
   go_wp2
   go_meet
   case rel => exact ⟨_, (([] : List (S25))), H', ⟨by first | omega | exact Nat.le_refl _⟩, ⟨by first | exact Kd.R_nil _ _ _ _ _ | exact Kd.N_nil _ _ _ _ _ | exact Kd.V_nil _ _ _ _ _ | exact Kd.Q_nil _ _ _ _ _ | exact Kd.S_nil _ _ _ _ _⟩, ⟨bx BK189⟩, ⟨by (with_reducible repeat (first | refine blk_drewN ?_ _ | refine blk_drew ?_ | refine blk_alloc ?_ _)); refine blk_put (cs := #[.int .i64 t190, .int .i64 0]) ?_ 1 _ rfl; (with_reducible repeat (first | refine blk_drewN ?_ _ | refine blk_drew ?_ | refine blk_alloc ?_ _)); refine blk_put (cs := #[.int .i64 0, .int .i64 0]) ?_ 0 _ rfl; (with_reducible repeat (first | refine blk_drewN ?_ _ | refine blk_drew ?_ | refine blk_alloc ?_ _)); exact BK193.out⟩, ⟨bw HB⟩⟩
 case rest =>
  clear HC3
  try clear c1
  try clear p2
  try clear c5
  try clear c6
  try clear c8
  try clear c10
  try clear c11
  try clear c12
  try clear hcz13_0
  try clear hcz13_1
  try clear hcz5_0
  try clear hcz5_1
  try clear hcz9_0
  try clear hcz9_1
  try clear hfz13_0
  try clear hfz13_1
  try clear hfz5_0
  try clear hfz5_1
  try clear hfz9_0
  try clear hfz9_1
  obtain ⟨kq, x4_2, HA, HJ2, HO_4, BK189, BK193, HB⟩ := hcut
  cases kq with
  | zero => exact absurd HA.out (by simp [impl_divisors.j0])
  | succ kj2 =>
   have H := HA.out
   clear HA
   simp only [impl_divisors.j0] at H
   replace H := Option.bind_eq_some_iff.mp H
   obtain ⟨⟨t197, t198, t199⟩, A150, H⟩ := H
   replace H : (if t199 = true then (if x4_2.length < 8796093022208 then ((some (x4_2 ++ [(⟨t197, t198⟩ : S25)] : List (S25))).bind fun y201 => ((impl_Interval_has.f a0_0 a0_1 0).bind fun t204 => (if t204 = true then (some (y201, 1)) else (some (y201, 0))))) else (none)) else ((impl_Interval_has.f a0_0 a0_1 0).bind fun t205 => (if t205 = true then (some (x4_2, 1)) else (some (x4_2, 0))))) = some (r1, r2) := H
   have A15 := Aside0.mk A150
   clear A150
   by_cases c16 : t199 = true
   ·subst c16
    have H1 : (if x4_2.length < 8796093022208 then ((some (x4_2 ++ [(⟨t197, t198⟩ : S25)] : List (S25))).bind fun y201 => ((impl_Interval_has.f a0_0 a0_1 0).bind fun t204 => (if t204 = true then (some (y201, 1)) else (some (y201, 0))))) else (none)) = some (r1, r2) := by rw [if_pos rfl] at H; exact H
    clear H
    have H := H1
    clear H1
    by_cases c17 : x4_2.length < 8796093022208
    ·rw [if_pos c17] at H
     have LMc17 := Aside0.mk c17
     clear c17
     obtain ⟨y201, hy201⟩ : ∃ y_ : List (S25), y_ = (x4_2 ++ [(⟨t197, t198⟩ : S25)]) := ⟨_, rfl⟩
     replace H : ((impl_Interval_has.f a0_0 a0_1 0).bind fun t204 => (if t204 = true then (some (y201, 1)) else (some (y201, 0)))) = some (r1, r2) := by first | (rw [hy201]; with_reducible exact H) | (have H2_ := (Option.bind_some _ _).symm.trans H; rw [hy201]; with_reducible exact H2_) | (have H2_ := (Option.bind_some _ _).symm.trans H; with_reducible exact H2_) | with_reducible exact H | (rw [hy201]; exact H) | exact H
     have Ny201 := Aside0.mk hy201
     clear hy201
     replace H := Option.bind_eq_some_iff.mp H
     obtain ⟨t204, A180, H⟩ := H
     replace H : (if t204 = true then (some (y201, 1)) else (some (y201, 0))) = some (r1, r2) := H
     have A18 := Aside0.mk A180
     clear A180
     by_cases c19 : t204 = true
     ·subst c19
      have H1 : (some (y201, 1)) = some (r1, r2) := by rw [if_pos rfl] at H; exact H
      clear H
      have H := H1
      clear H1
      simp only [Option.some.injEq, Prod.mk.injEq] at H
      obtain ⟨rfl, rfl⟩ := H
      have hnb20 := NB189_193.out
      have hnc20 := NB193_189.out
      have hcz21_0 : wc.cell? ⟨gb189, 0, none⟩ = some (.int .i64 a0_0) := (blk_cell BK189.out 0).trans rfl
      have hcz21_1 : wc.cell? ⟨gb189, 1, none⟩ = some (.int .i64 a0_1) := (blk_cell BK189.out 1).trans rfl
      have hfz21_0 := blk_frozen BK189.out 0
      have hfz21_1 := blk_frozen BK189.out 1
      go_wp2_with (first | ((with_reducible refine gate_callee (f := 69) rfl ?_); refine goesL_ (some 23) rfl rfl Try.func69 (by kernel_rfl) rfl #[.agg #[.int .i64 a0_0, .int .i64 a0_1], .agg #[.int .i64 1, .int .i64 9223372036854775807]] rfl (by (try simp only [List.map_toArray, List.map_cons, List.map_nil]); first | done | rfl | (simp only [List.length_drop, List.length_take]; rfl)) ?_; (with_reducible refine (impl_IvMeet.calls a0_0 a0_1 1 9223372036854775807 t197 t198 true _ A15.out).mono ?_); rintro e w22 ⟨rfl, hb⟩; refine ⟨_, rfl, ?_⟩; replace HO_4 := Aside0.mk (Kd.R_below (by (with_reducible repeat (first | apply Kd.R_alloc | apply Kd.R_drewN | apply Kd.R_drew)); exact HO_4.out) hb); replace BK189 := bb BK189 hb; replace BK193 := bb BK193 hb; replace HB := bs HB hb; (try clear hb); (try clear hb2); (try clear hk); (try clear hi)) | ((with_reducible refine gate_dst (N := 7) rfl ?_); refine box_event rfl rfl (cs := #[.int .i64 0, .int .i64 0]) (t := 25) (by first | (go_simp; done) | (go_simp; rfl)) ?_; intro gb200 hg w23 hbox hb; replace HO_4 := Aside0.mk (Kd.R_below (Kd.R_elderB (by (with_reducible repeat (first | apply Kd.R_alloc | apply Kd.R_drewN | apply Kd.R_drew)); exact HO_4.out) gb200 (Nat.le_of_eq hg.symm)) hb); have BK200 := Aside0.mk (hbox); have GW200 := bz HB hg; have GE200 := bz HB hg; replace HB := bs HB hb; have NB189_200 := bl BK189 hg; have NB200_189 := bg BK189 hg; replace BK189 := bb BK189 hb; have NB193_200 := bl BK193 hg; have NB200_193 := bg BK193 hg; replace BK193 := bb BK193 hb; clear hb hbox hg; have hnb24 := NB200_189.out; have hnc24 := NB189_200.out; have hnb25 := NB200_193.out; have hnc25 := NB193_200.out; have hcz26_0 : w23.cell? ⟨gb200, 0, none⟩ = some (.int .i64 0) := (blk_cell BK200.out 0).trans rfl; have hcz26_1 : w23.cell? ⟨gb200, 1, none⟩ = some (.int .i64 0) := (blk_cell BK200.out 1).trans rfl; have hfz26_0 := blk_frozen BK200.out 0; have hfz26_1 := blk_frozen BK200.out 1) | ((with_reducible refine gate_builtin (b := .append) (xs := #[.tmp 27, .tmp 29]) rfl ?_); at_builtin; refine Kd.R_append k25 (w0 := w) w.heap.size rfl (.tmp 27) (.tmp 29) 58 25 (.agg #[(.int .i64 0), (.int .i64 0)]) 16 rfl Try.underlying58 info25 rfl (by decide) (by omega) u4 x4_2 (⟨t197, t198⟩ : S25) [.int .i64 t197, .int .i64 t198] (fun k_ => k_ ≠ gb189 ∧ k_ ≠ gb193 ∧ k_ ≠ gb200) (fun _ => False) rfl (by first | (go_simp; done) | (go_simp; rfl)) ?aP (fun _ hk => hk.elim) ?aF ?aO ?aB ?aS ?aL ?_; (case aP => exact k25_mkM _ _ _ (⟨t197, t198⟩ : S25)); (case aB => exact (bw HB)); (case aF => exact (fun k_ hk => ⟨Kd.freshB (g := gb189) (o := .cells #[.int .i64 a0_0, .int .i64 a0_1] 25 (0, 0)) (bx BK189) k_ hk, Kd.freshB (g := gb193) (o := .cells #[.int .i64 t190, .int .i64 t191] 25 (0, 0)) (bx BK193) k_ hk, Kd.freshB (g := gb200) (o := .cells #[.int .i64 t197, .int .i64 t198] 25 (0, 0)) (by (with_reducible repeat (first | refine blk_drewN ?_ _ | refine blk_drew ?_ | refine blk_alloc ?_ _)); refine blk_put (cs := #[.int .i64 t197, .int .i64 0]) ?_ 1 _ rfl; (with_reducible repeat (first | refine blk_drewN ?_ _ | refine blk_drew ?_ | refine blk_alloc ?_ _)); refine blk_put (cs := #[.int .i64 0, .int .i64 0]) ?_ 0 _ rfl; (with_reducible repeat (first | refine blk_drewN ?_ _ | refine blk_drew ?_ | refine blk_alloc ?_ _)); exact BK200.out) k_ hk⟩)); (case aO => exact (by (with_reducible repeat (first | apply Kd.R_alloc | apply Kd.R_drewN | apply Kd.R_drew)); exact Kd.R_mono (Kd.R_far (p := ⟨gb200, 1, none⟩) (Kd.R_far (p := ⟨gb200, 0, none⟩) (Kd.R_mono HO_4.out (fun k_ hk => (⟨hk, hk.2⟩ : _ ∧ k_ ≠ gb200))) (fun _ hk => hk.2) (.int .i64 t197)) (fun _ hk => hk.2) (.int .i64 t198)) (fun _ hk => ⟨hk.1.1.1, ⟨hk.1.1.2, hk.1.2⟩⟩))); (case aS => exact (below_size (bw HB))); (case aL => have := LMc17.out; omega); intro v202 w27 ho hb hg hat; rw [← Ny201.out] at ho; have n0_ := Aside0.mk (blk_grown (g := gb189) (o := .cells #[.int .i64 a0_0, .int .i64 a0_1] 25 (0, 0)) (bx BK189) hg (Kd.R_away HO_4.out (fun _ hk => hk.1.1))); have n1_ := Aside0.mk (blk_grown (g := gb193) (o := .cells #[.int .i64 t190, .int .i64 t191] 25 (0, 0)) (bx BK193) hg (Kd.R_away HO_4.out (fun _ hk => hk.1.2))); have n2_ := Aside0.mk (blk_grown (g := gb200) (o := .cells #[.int .i64 t197, .int .i64 t198] 25 (0, 0)) (by (with_reducible repeat (first | refine blk_drewN ?_ _ | refine blk_drew ?_ | refine blk_alloc ?_ _)); refine blk_put (cs := #[.int .i64 t197, .int .i64 0]) ?_ 1 _ rfl; (with_reducible repeat (first | refine blk_drewN ?_ _ | refine blk_drew ?_ | refine blk_alloc ?_ _)); refine blk_put (cs := #[.int .i64 0, .int .i64 0]) ?_ 0 _ rfl; (with_reducible repeat (first | refine blk_drewN ?_ _ | refine blk_drew ?_ | refine blk_alloc ?_ _)); exact BK200.out) hg (Kd.R_away HO_4.out (fun _ hk => hk.2))); have n3_ := Aside0.mk (hb); have n4_ := Aside0.mk (ho); clear BK189; clear BK193; clear BK200; clear HB; clear HO_4; have BK189 := n0_; have BK193 := n1_; have BK200 := n2_; have HB := n3_; have HO203 := n4_; clear n0_ n1_ n2_ n3_ n4_; clear ho hb hg hat; have hcz28_0 : w27.cell? ⟨gb189, 0, none⟩ = some (.int .i64 a0_0) := (blk_cell BK189.out 0).trans rfl; have hcz28_1 : w27.cell? ⟨gb189, 1, none⟩ = some (.int .i64 a0_1) := (blk_cell BK189.out 1).trans rfl; have hfz28_0 := blk_frozen BK189.out 0; have hfz28_1 := blk_frozen BK189.out 1) | ((with_reducible refine gate_callee (f := 44) rfl ?_); refine goesL_ (some 32) rfl rfl Try.func44 (by kernel_rfl) rfl #[.agg #[.int .i64 a0_0, .int .i64 a0_1], .int .i64 0] rfl (by (try simp only [List.map_toArray, List.map_cons, List.map_nil]); first | done | rfl | (simp only [List.length_drop, List.length_take]; rfl)) ?_; (with_reducible refine (impl_Interval_has.calls a0_0 a0_1 0 true _ A18.out).mono ?_); rintro e w29 ⟨rfl, hb⟩; refine ⟨_, rfl, ?_⟩; replace HO203 := Aside0.mk (Kd.R_below (by (with_reducible repeat (first | apply Kd.R_alloc | apply Kd.R_drewN | apply Kd.R_drew)); exact HO203.out) hb); replace BK189 := bb BK189 hb; replace BK193 := bb BK193 hb; replace BK200 := bb BK200 hb; replace HB := bs HB hb; (try clear hb); (try clear hb2); (try clear hk); (try clear hi)))
      go_ret2
      exact ⟨_, by first | rfl | (simp [errW_none, errW_some] <;> rfl) | (simp [*, errW_none, errW_some] <;> rfl), by (with_reducible repeat (first | apply Kd.R_alloc | apply Kd.R_drewN | apply Kd.R_drew)); exact Kd.R_mono HO203.out (fun _ hk => trivial), bw HB⟩
     ·replace c19 := Bool.eq_false_iff.mpr c19
      subst c19
      have H1 : (some (y201, 0)) = some (r1, r2) := by rw [if_neg (show ¬ (false = true) by decide)] at H; exact H
      clear H
      have H := H1
      clear H1
      simp only [Option.some.injEq, Prod.mk.injEq] at H
      obtain ⟨rfl, rfl⟩ := H
      have hnb30 := NB189_193.out
      have hnc30 := NB193_189.out
      have hcz31_0 : wc.cell? ⟨gb189, 0, none⟩ = some (.int .i64 a0_0) := (blk_cell BK189.out 0).trans rfl
      have hcz31_1 : wc.cell? ⟨gb189, 1, none⟩ = some (.int .i64 a0_1) := (blk_cell BK189.out 1).trans rfl
      have hfz31_0 := blk_frozen BK189.out 0
      have hfz31_1 := blk_frozen BK189.out 1
      go_wp2_with (first | ((with_reducible refine gate_callee (f := 69) rfl ?_); refine goesL_ (some 23) rfl rfl Try.func69 (by kernel_rfl) rfl #[.agg #[.int .i64 a0_0, .int .i64 a0_1], .agg #[.int .i64 1, .int .i64 9223372036854775807]] rfl (by (try simp only [List.map_toArray, List.map_cons, List.map_nil]); first | done | rfl | (simp only [List.length_drop, List.length_take]; rfl)) ?_; (with_reducible refine (impl_IvMeet.calls a0_0 a0_1 1 9223372036854775807 t197 t198 true _ A15.out).mono ?_); rintro e w32 ⟨rfl, hb⟩; refine ⟨_, rfl, ?_⟩; replace HO_4 := Aside0.mk (Kd.R_below (by (with_reducible repeat (first | apply Kd.R_alloc | apply Kd.R_drewN | apply Kd.R_drew)); exact HO_4.out) hb); replace BK189 := bb BK189 hb; replace BK193 := bb BK193 hb; replace HB := bs HB hb; (try clear hb); (try clear hb2); (try clear hk); (try clear hi)) | ((with_reducible refine gate_dst (N := 7) rfl ?_); refine box_event rfl rfl (cs := #[.int .i64 0, .int .i64 0]) (t := 25) (by first | (go_simp; done) | (go_simp; rfl)) ?_; intro gb200 hg w33 hbox hb; replace HO_4 := Aside0.mk (Kd.R_below (Kd.R_elderB (by (with_reducible repeat (first | apply Kd.R_alloc | apply Kd.R_drewN | apply Kd.R_drew)); exact HO_4.out) gb200 (Nat.le_of_eq hg.symm)) hb); have BK200 := Aside0.mk (hbox); have GW200 := bz HB hg; have GE200 := bz HB hg; replace HB := bs HB hb; have NB189_200 := bl BK189 hg; have NB200_189 := bg BK189 hg; replace BK189 := bb BK189 hb; have NB193_200 := bl BK193 hg; have NB200_193 := bg BK193 hg; replace BK193 := bb BK193 hb; clear hb hbox hg; have hnb34 := NB200_189.out; have hnc34 := NB189_200.out; have hnb35 := NB200_193.out; have hnc35 := NB193_200.out; have hcz36_0 : w33.cell? ⟨gb200, 0, none⟩ = some (.int .i64 0) := (blk_cell BK200.out 0).trans rfl; have hcz36_1 : w33.cell? ⟨gb200, 1, none⟩ = some (.int .i64 0) := (blk_cell BK200.out 1).trans rfl; have hfz36_0 := blk_frozen BK200.out 0; have hfz36_1 := blk_frozen BK200.out 1) | ((with_reducible refine gate_builtin (b := .append) (xs := #[.tmp 27, .tmp 29]) rfl ?_); at_builtin; refine Kd.R_append k25 (w0 := w) w.heap.size rfl (.tmp 27) (.tmp 29) 58 25 (.agg #[(.int .i64 0), (.int .i64 0)]) 16 rfl Try.underlying58 info25 rfl (by decide) (by omega) u4 x4_2 (⟨t197, t198⟩ : S25) [.int .i64 t197, .int .i64 t198] (fun k_ => k_ ≠ gb189 ∧ k_ ≠ gb193 ∧ k_ ≠ gb200) (fun _ => False) rfl (by first | (go_simp; done) | (go_simp; rfl)) ?aP (fun _ hk => hk.elim) ?aF ?aO ?aB ?aS ?aL ?_; (case aP => exact k25_mkM _ _ _ (⟨t197, t198⟩ : S25)); (case aB => exact (bw HB)); (case aF => exact (fun k_ hk => ⟨Kd.freshB (g := gb189) (o := .cells #[.int .i64 a0_0, .int .i64 a0_1] 25 (0, 0)) (bx BK189) k_ hk, Kd.freshB (g := gb193) (o := .cells #[.int .i64 t190, .int .i64 t191] 25 (0, 0)) (bx BK193) k_ hk, Kd.freshB (g := gb200) (o := .cells #[.int .i64 t197, .int .i64 t198] 25 (0, 0)) (by (with_reducible repeat (first | refine blk_drewN ?_ _ | refine blk_drew ?_ | refine blk_alloc ?_ _)); refine blk_put (cs := #[.int .i64 t197, .int .i64 0]) ?_ 1 _ rfl; (with_reducible repeat (first | refine blk_drewN ?_ _ | refine blk_drew ?_ | refine blk_alloc ?_ _)); refine blk_put (cs := #[.int .i64 0, .int .i64 0]) ?_ 0 _ rfl; (with_reducible repeat (first | refine blk_drewN ?_ _ | refine blk_drew ?_ | refine blk_alloc ?_ _)); exact BK200.out) k_ hk⟩)); (case aO => exact (by (with_reducible repeat (first | apply Kd.R_alloc | apply Kd.R_drewN | apply Kd.R_drew)); exact Kd.R_mono (Kd.R_far (p := ⟨gb200, 1, none⟩) (Kd.R_far (p := ⟨gb200, 0, none⟩) (Kd.R_mono HO_4.out (fun k_ hk => (⟨hk, hk.2⟩ : _ ∧ k_ ≠ gb200))) (fun _ hk => hk.2) (.int .i64 t197)) (fun _ hk => hk.2) (.int .i64 t198)) (fun _ hk => ⟨hk.1.1.1, ⟨hk.1.1.2, hk.1.2⟩⟩))); (case aS => exact (below_size (bw HB))); (case aL => have := LMc17.out; omega); intro v202 w37 ho hb hg hat; rw [← Ny201.out] at ho; have n0_ := Aside0.mk (blk_grown (g := gb189) (o := .cells #[.int .i64 a0_0, .int .i64 a0_1] 25 (0, 0)) (bx BK189) hg (Kd.R_away HO_4.out (fun _ hk => hk.1.1))); have n1_ := Aside0.mk (blk_grown (g := gb193) (o := .cells #[.int .i64 t190, .int .i64 t191] 25 (0, 0)) (bx BK193) hg (Kd.R_away HO_4.out (fun _ hk => hk.1.2))); have n2_ := Aside0.mk (blk_grown (g := gb200) (o := .cells #[.int .i64 t197, .int .i64 t198] 25 (0, 0)) (by (with_reducible repeat (first | refine blk_drewN ?_ _ | refine blk_drew ?_ | refine blk_alloc ?_ _)); refine blk_put (cs := #[.int .i64 t197, .int .i64 0]) ?_ 1 _ rfl; (with_reducible repeat (first | refine blk_drewN ?_ _ | refine blk_drew ?_ | refine blk_alloc ?_ _)); refine blk_put (cs := #[.int .i64 0, .int .i64 0]) ?_ 0 _ rfl; (with_reducible repeat (first | refine blk_drewN ?_ _ | refine blk_drew ?_ | refine blk_alloc ?_ _)); exact BK200.out) hg (Kd.R_away HO_4.out (fun _ hk => hk.2))); have n3_ := Aside0.mk (hb); have n4_ := Aside0.mk (ho); clear BK189; clear BK193; clear BK200; clear HB; clear HO_4; have BK189 := n0_; have BK193 := n1_; have BK200 := n2_; have HB := n3_; have HO203 := n4_; clear n0_ n1_ n2_ n3_ n4_; clear ho hb hg hat; have hcz38_0 : w37.cell? ⟨gb189, 0, none⟩ = some (.int .i64 a0_0) := (blk_cell BK189.out 0).trans rfl; have hcz38_1 : w37.cell? ⟨gb189, 1, none⟩ = some (.int .i64 a0_1) := (blk_cell BK189.out 1).trans rfl; have hfz38_0 := blk_frozen BK189.out 0; have hfz38_1 := blk_frozen BK189.out 1) | ((with_reducible refine gate_callee (f := 44) rfl ?_); refine goesL_ (some 32) rfl rfl Try.func44 (by kernel_rfl) rfl #[.agg #[.int .i64 a0_0, .int .i64 a0_1], .int .i64 0] rfl (by (try simp only [List.map_toArray, List.map_cons, List.map_nil]); first | done | rfl | (simp only [List.length_drop, List.length_take]; rfl)) ?_; (with_reducible refine (impl_Interval_has.calls a0_0 a0_1 0 false _ A18.out).mono ?_); rintro e w39 ⟨rfl, hb⟩; refine ⟨_, rfl, ?_⟩; replace HO203 := Aside0.mk (Kd.R_below (by (with_reducible repeat (first | apply Kd.R_alloc | apply Kd.R_drewN | apply Kd.R_drew)); exact HO203.out) hb); replace BK189 := bb BK189 hb; replace BK193 := bb BK193 hb; replace BK200 := bb BK200 hb; replace HB := bs HB hb; (try clear hb); (try clear hb2); (try clear hk); (try clear hi)))
      go_ret2
      exact ⟨_, by first | rfl | (simp [errW_none, errW_some] <;> rfl) | (simp [*, errW_none, errW_some] <;> rfl), by (with_reducible repeat (first | apply Kd.R_alloc | apply Kd.R_drewN | apply Kd.R_drew)); exact Kd.R_mono HO203.out (fun _ hk => trivial), bw HB⟩
    ·rw [if_neg c17] at H
     exact absurd H (by simp)
   ·replace c16 := Bool.eq_false_iff.mpr c16
    subst c16
    have H1 : ((impl_Interval_has.f a0_0 a0_1 0).bind fun t205 => (if t205 = true then (some (x4_2, 1)) else (some (x4_2, 0)))) = some (r1, r2) := by rw [if_neg (show ¬ (false = true) by decide)] at H; exact H
    clear H
    have H := H1
    clear H1
    replace H := Option.bind_eq_some_iff.mp H
    obtain ⟨t205, A400, H⟩ := H
    replace H : (if t205 = true then (some (x4_2, 1)) else (some (x4_2, 0))) = some (r1, r2) := H
    have A40 := Aside0.mk A400
    clear A400
    by_cases c41 : t205 = true
    ·subst c41
     have H1 : (some (x4_2, 1)) = some (r1, r2) := by rw [if_pos rfl] at H; exact H
     clear H
     have H := H1
     clear H1
     simp only [Option.some.injEq, Prod.mk.injEq] at H
     obtain ⟨rfl, rfl⟩ := H
     have hnb42 := NB189_193.out
     have hnc42 := NB193_189.out
     have hcz43_0 : wc.cell? ⟨gb189, 0, none⟩ = some (.int .i64 a0_0) := (blk_cell BK189.out 0).trans rfl
     have hcz43_1 : wc.cell? ⟨gb189, 1, none⟩ = some (.int .i64 a0_1) := (blk_cell BK189.out 1).trans rfl
     have hfz43_0 := blk_frozen BK189.out 0
     have hfz43_1 := blk_frozen BK189.out 1
     go_wp2_with (first | ((with_reducible refine gate_callee (f := 69) rfl ?_); refine goesL_ (some 23) rfl rfl Try.func69 (by kernel_rfl) rfl #[.agg #[.int .i64 a0_0, .int .i64 a0_1], .agg #[.int .i64 1, .int .i64 9223372036854775807]] rfl (by (try simp only [List.map_toArray, List.map_cons, List.map_nil]); first | done | rfl | (simp only [List.length_drop, List.length_take]; rfl)) ?_; (with_reducible refine (impl_IvMeet.calls a0_0 a0_1 1 9223372036854775807 t197 t198 false _ A15.out).mono ?_); rintro e w44 ⟨rfl, hb⟩; refine ⟨_, rfl, ?_⟩; replace HO_4 := Aside0.mk (Kd.R_below (by (with_reducible repeat (first | apply Kd.R_alloc | apply Kd.R_drewN | apply Kd.R_drew)); exact HO_4.out) hb); replace BK189 := bb BK189 hb; replace BK193 := bb BK193 hb; replace HB := bs HB hb; (try clear hb); (try clear hb2); (try clear hk); (try clear hi)) | ((with_reducible refine gate_dst (N := 7) rfl ?_); refine box_event rfl rfl (cs := #[.int .i64 0, .int .i64 0]) (t := 25) (by first | (go_simp; done) | (go_simp; rfl)) ?_; intro gb200 hg w45 hbox hb; replace HO_4 := Aside0.mk (Kd.R_below (Kd.R_elderB (by (with_reducible repeat (first | apply Kd.R_alloc | apply Kd.R_drewN | apply Kd.R_drew)); exact HO_4.out) gb200 (Nat.le_of_eq hg.symm)) hb); have BK200 := Aside0.mk (hbox); have GW200 := bz HB hg; have GE200 := bz HB hg; replace HB := bs HB hb; have NB189_200 := bl BK189 hg; have NB200_189 := bg BK189 hg; replace BK189 := bb BK189 hb; have NB193_200 := bl BK193 hg; have NB200_193 := bg BK193 hg; replace BK193 := bb BK193 hb; clear hb hbox hg; have hnb46 := NB200_189.out; have hnc46 := NB189_200.out; have hnb47 := NB200_193.out; have hnc47 := NB193_200.out; have hcz48_0 : w45.cell? ⟨gb200, 0, none⟩ = some (.int .i64 0) := (blk_cell BK200.out 0).trans rfl; have hcz48_1 : w45.cell? ⟨gb200, 1, none⟩ = some (.int .i64 0) := (blk_cell BK200.out 1).trans rfl; have hfz48_0 := blk_frozen BK200.out 0; have hfz48_1 := blk_frozen BK200.out 1; have hcz49_0 : w45.cell? ⟨gb189, 0, none⟩ = some (.int .i64 a0_0) := (blk_cell BK189.out 0).trans rfl; have hcz49_1 : w45.cell? ⟨gb189, 1, none⟩ = some (.int .i64 a0_1) := (blk_cell BK189.out 1).trans rfl; have hfz49_0 := blk_frozen BK189.out 0; have hfz49_1 := blk_frozen BK189.out 1) | ((with_reducible refine gate_callee (f := 44) rfl ?_); refine goesL_ (some 32) rfl rfl Try.func44 (by kernel_rfl) rfl #[.agg #[.int .i64 a0_0, .int .i64 a0_1], .int .i64 0] rfl (by (try simp only [List.map_toArray, List.map_cons, List.map_nil]); first | done | rfl | (simp only [List.length_drop, List.length_take]; rfl)) ?_; (with_reducible refine (impl_Interval_has.calls a0_0 a0_1 0 true _ A40.out).mono ?_); rintro e w50 ⟨rfl, hb⟩; refine ⟨_, rfl, ?_⟩; replace HO_4 := Aside0.mk (Kd.R_below (by (with_reducible repeat (first | apply Kd.R_alloc | apply Kd.R_drewN | apply Kd.R_drew)); exact (Kd.R_mono (Kd.R_far (p := ⟨gb200, 1, none⟩) (Kd.R_far (p := ⟨gb200, 0, none⟩) (Kd.R_mono HO_4.out (fun k_ hk => (⟨hk, hk.2⟩ : _ ∧ k_ ≠ gb200))) (fun _ hk => hk.2) (.int .i64 t197)) (fun _ hk => hk.2) (.int .i64 t198)) (fun _ h_ => h_.1))) hb); replace BK189 := Aside0.mk (blk_below (g := gb189) (o := .cells #[.int .i64 a0_0, .int .i64 a0_1] 25 (0, 0)) (bx BK189) hb); replace BK193 := Aside0.mk (blk_below (g := gb193) (o := .cells #[.int .i64 t190, .int .i64 t191] 25 (0, 0)) (bx BK193) hb); replace BK200 := Aside0.mk (blk_below (g := gb200) (o := .cells #[.int .i64 t197, .int .i64 t198] 25 (0, 0)) (by (with_reducible repeat (first | refine blk_drewN ?_ _ | refine blk_drew ?_ | refine blk_alloc ?_ _)); refine blk_put (cs := #[.int .i64 t197, .int .i64 0]) ?_ 1 _ rfl; (with_reducible repeat (first | refine blk_drewN ?_ _ | refine blk_drew ?_ | refine blk_alloc ?_ _)); refine blk_put (cs := #[.int .i64 0, .int .i64 0]) ?_ 0 _ rfl; (with_reducible repeat (first | refine blk_drewN ?_ _ | refine blk_drew ?_ | refine blk_alloc ?_ _)); exact BK200.out) hb); replace HB := bs HB hb; (try clear hb); (try clear hb2); (try clear hk); (try clear hi)))
     go_ret2
     exact ⟨_, by first | rfl | (simp [errW_none, errW_some] <;> rfl) | (simp [*, errW_none, errW_some] <;> rfl), by (with_reducible repeat (first | apply Kd.R_alloc | apply Kd.R_drewN | apply Kd.R_drew)); exact Kd.R_mono HO_4.out (fun _ hk => trivial), bw HB⟩
    ·replace c41 := Bool.eq_false_iff.mpr c41
     subst c41
     have H1 : (some (x4_2, 0)) = some (r1, r2) := by rw [if_neg (show ¬ (false = true) by decide)] at H; exact H
     clear H
     have H := H1
     clear H1
     simp only [Option.some.injEq, Prod.mk.injEq] at H
     obtain ⟨rfl, rfl⟩ := H
     have hnb51 := NB189_193.out
     have hnc51 := NB193_189.out
     have hcz52_0 : wc.cell? ⟨gb189, 0, none⟩ = some (.int .i64 a0_0) := (blk_cell BK189.out 0).trans rfl
     have hcz52_1 : wc.cell? ⟨gb189, 1, none⟩ = some (.int .i64 a0_1) := (blk_cell BK189.out 1).trans rfl
     have hfz52_0 := blk_frozen BK189.out 0
     have hfz52_1 := blk_frozen BK189.out 1
     go_wp2_with (first | ((with_reducible refine gate_callee (f := 69) rfl ?_); refine goesL_ (some 23) rfl rfl Try.func69 (by kernel_rfl) rfl #[.agg #[.int .i64 a0_0, .int .i64 a0_1], .agg #[.int .i64 1, .int .i64 9223372036854775807]] rfl (by (try simp only [List.map_toArray, List.map_cons, List.map_nil]); first | done | rfl | (simp only [List.length_drop, List.length_take]; rfl)) ?_; (with_reducible refine (impl_IvMeet.calls a0_0 a0_1 1 9223372036854775807 t197 t198 false _ A15.out).mono ?_); rintro e w53 ⟨rfl, hb⟩; refine ⟨_, rfl, ?_⟩; replace HO_4 := Aside0.mk (Kd.R_below (by (with_reducible repeat (first | apply Kd.R_alloc | apply Kd.R_drewN | apply Kd.R_drew)); exact HO_4.out) hb); replace BK189 := bb BK189 hb; replace BK193 := bb BK193 hb; replace HB := bs HB hb; (try clear hb); (try clear hb2); (try clear hk); (try clear hi)) | ((with_reducible refine gate_dst (N := 7) rfl ?_); refine box_event rfl rfl (cs := #[.int .i64 0, .int .i64 0]) (t := 25) (by first | (go_simp; done) | (go_simp; rfl)) ?_; intro gb200 hg w54 hbox hb; replace HO_4 := Aside0.mk (Kd.R_below (Kd.R_elderB (by (with_reducible repeat (first | apply Kd.R_alloc | apply Kd.R_drewN | apply Kd.R_drew)); exact HO_4.out) gb200 (Nat.le_of_eq hg.symm)) hb); have BK200 := Aside0.mk (hbox); have GW200 := bz HB hg; have GE200 := bz HB hg; replace HB := bs HB hb; have NB189_200 := bl BK189 hg; have NB200_189 := bg BK189 hg; replace BK189 := bb BK189 hb; have NB193_200 := bl BK193 hg; have NB200_193 := bg BK193 hg; replace BK193 := bb BK193 hb; clear hb hbox hg; have hnb55 := NB200_189.out; have hnc55 := NB189_200.out; have hnb56 := NB200_193.out; have hnc56 := NB193_200.out; have hcz57_0 : w54.cell? ⟨gb200, 0, none⟩ = some (.int .i64 0) := (blk_cell BK200.out 0).trans rfl; have hcz57_1 : w54.cell? ⟨gb200, 1, none⟩ = some (.int .i64 0) := (blk_cell BK200.out 1).trans rfl; have hfz57_0 := blk_frozen BK200.out 0; have hfz57_1 := blk_frozen BK200.out 1; have hcz58_0 : w54.cell? ⟨gb189, 0, none⟩ = some (.int .i64 a0_0) := (blk_cell BK189.out 0).trans rfl; have hcz58_1 : w54.cell? ⟨gb189, 1, none⟩ = some (.int .i64 a0_1) := (blk_cell BK189.out 1).trans rfl; have hfz58_0 := blk_frozen BK189.out 0; have hfz58_1 := blk_frozen BK189.out 1) | ((with_reducible refine gate_callee (f := 44) rfl ?_); refine goesL_ (some 32) rfl rfl Try.func44 (by kernel_rfl) rfl #[.agg #[.int .i64 a0_0, .int .i64 a0_1], .int .i64 0] rfl (by (try simp only [List.map_toArray, List.map_cons, List.map_nil]); first | done | rfl | (simp only [List.length_drop, List.length_take]; rfl)) ?_; (with_reducible refine (impl_Interval_has.calls a0_0 a0_1 0 false _ A40.out).mono ?_); rintro e w59 ⟨rfl, hb⟩; refine ⟨_, rfl, ?_⟩; replace HO_4 := Aside0.mk (Kd.R_below (by (with_reducible repeat (first | apply Kd.R_alloc | apply Kd.R_drewN | apply Kd.R_drew)); exact (Kd.R_mono (Kd.R_far (p := ⟨gb200, 1, none⟩) (Kd.R_far (p := ⟨gb200, 0, none⟩) (Kd.R_mono HO_4.out (fun k_ hk => (⟨hk, hk.2⟩ : _ ∧ k_ ≠ gb200))) (fun _ hk => hk.2) (.int .i64 t197)) (fun _ hk => hk.2) (.int .i64 t198)) (fun _ h_ => h_.1))) hb); replace BK189 := Aside0.mk (blk_below (g := gb189) (o := .cells #[.int .i64 a0_0, .int .i64 a0_1] 25 (0, 0)) (bx BK189) hb); replace BK193 := Aside0.mk (blk_below (g := gb193) (o := .cells #[.int .i64 t190, .int .i64 t191] 25 (0, 0)) (bx BK193) hb); replace BK200 := Aside0.mk (blk_below (g := gb200) (o := .cells #[.int .i64 t197, .int .i64 t198] 25 (0, 0)) (by (with_reducible repeat (first | refine blk_drewN ?_ _ | refine blk_drew ?_ | refine blk_alloc ?_ _)); refine blk_put (cs := #[.int .i64 t197, .int .i64 0]) ?_ 1 _ rfl; (with_reducible repeat (first | refine blk_drewN ?_ _ | refine blk_drew ?_ | refine blk_alloc ?_ _)); refine blk_put (cs := #[.int .i64 0, .int .i64 0]) ?_ 0 _ rfl; (with_reducible repeat (first | refine blk_drewN ?_ _ | refine blk_drew ?_ | refine blk_alloc ?_ _)); exact BK200.out) hb); replace HB := bs HB hb; (try clear hb); (try clear hb2); (try clear hk); (try clear hi)))
     go_ret2
     exact ⟨_, by first | rfl | (simp [errW_none, errW_some] <;> rfl) | (simp [*, errW_none, errW_some] <;> rfl), by (with_reducible repeat (first | apply Kd.R_alloc | apply Kd.R_drewN | apply Kd.R_drew)); exact Kd.R_mono HO_4.out (fun _ hk => trivial), bw HB⟩

end Go.Proofs.Ytdjhalelgknnkaa.Q
