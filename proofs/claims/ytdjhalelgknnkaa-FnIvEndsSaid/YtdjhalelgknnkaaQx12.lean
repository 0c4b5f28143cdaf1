-- Contracts of the program's functions, each with the plain function that it computes.
import Derived.Test.YtdjhalelgknnkaaQx0
import Derived.Test.YtdjhalelgknnkaaQx2
import Derived.Test.YtdjhalelgknnkaaQx9
import Derived.Test.YtdjhalelgknnkaaQx11
namespace Go.Proofs.Ytdjhalelgknnkaa.Q
open Go.RowKit Go.Proofs.YtdjhalelgknnkaaW.PrintWords Go.Proofs.YtdjhalelgknnkaaW.PrintLast Go.Proofs.YtdjhalelgknnkaaW.PrintMore
attribute [local go_sem] max2_int min2_int max_two min_two max_three min_three max_four min_four   -- for this text's walks alone
set_option linter.unusedVariables false
set_option linter.unusedSimpArgs false

/-! ### impl_IvMul: function 31 -/
def impl_IvMul.f (a0_0 : Int) (a0_1 : Int) (a1_0 : Int) (a1_1 : Int) : Option (Int × Int × Bool × Int) := if (-9223372036854775808 ≤ a0_0 ∧ a0_0 ≤ 9223372036854775807) ∧ (-9223372036854775808 ≤ a0_1 ∧ a0_1 ≤ 9223372036854775807) ∧ (-9223372036854775808 ≤ a1_0 ∧ a1_0 ≤ 9223372036854775807) ∧ (-9223372036854775808 ≤ a1_1 ∧ a1_1 ≤ 9223372036854775807) then some (ByCor.cornV Math.mulV a0_0 a0_1 a1_0 a1_1) else none
theorem impl_IvMul.areIvs : ByCor.AreIvs := by
 intro a b c d w
 refine (impl_areIvs.calls a b c d (decide (a ≤ b ∧ c ≤ d)) w ?_).mono fun e w' h => ⟨h.1, (by first | exact h.2 | exact h.2.below)⟩
 simp only [impl_areIvs.f, impl_IvOk.f, Option.bind_some]
 by_cases h1 : a ≤ b <;> by_cases h2 : c ≤ d <;> simp [h1, h2]
theorem impl_IvMul.num (x y : Int) (W : World) (hx : -9223372036854775808 ≤ x ∧ x ≤ 9223372036854775807) (hy : -9223372036854775808 ≤ y ∧ y ≤ 9223372036854775807) : Calls Try.prog 39 #[.int .i64 x, .int .i64 y] W fun e w' => e = .returned (.tuple #[.int .i64 (Math.mulV x y).1, .int .i64 (Math.mulV x y).2]) ∧ Drawn0 W w' :=
 impl_NumMul.calls x y _ _ W (by rw [show impl_NumMul.f x y = some (Math.mulV x y) from if_pos ⟨hx, hy⟩])
theorem impl_IvMul.enters : ∀ args w, (callFunc 39 args).run Try.prog w = .ok (.enter 39 args) w := by
 intro args w
 first | rfl | (go_simp; done) | (simp [callFunc, go_sem]; done) | (unfold callFunc; go_simp)
set_option maxHeartbeats 2000000 in
theorem impl_IvMul.calls (a0_0 : Int) (a0_1 : Int) (a1_0 : Int) (a1_1 : Int) (r1 : Int) (r2 : Int) (r3 : Bool) (r4 : Int) (w : World) (h : impl_IvMul.f a0_0 a0_1 a1_0 a1_1 = some (r1, r2, r3, r4)) :
  Calls Try.prog 31 #[.agg #[.int .i64 a0_0, .int .i64 a0_1], .agg #[.int .i64 a1_0, .int .i64 a1_1]] w fun e w' => e = .returned (.agg #[.int .i64 r1, .int .i64 r2, .bool r3, .int .i64 r4]) ∧ Below w.heap.size w w' := by
 unfold impl_IvMul.f at h
 split at h
 case isFalse => exact absurd h (by simp)
 rename_i hb
 obtain ⟨h0, h1, h2, h3⟩ := hb
 have hv := Option.some.inj h
 clear h
 have q1 : (ByCor.cornV Math.mulV a0_0 a0_1 a1_0 a1_1).1 = r1 := by rw [hv]
 have q2 : (ByCor.cornV Math.mulV a0_0 a0_1 a1_0 a1_1).2.1 = r2 := by rw [hv]
 have q3 : (ByCor.cornV Math.mulV a0_0 a0_1 a1_0 a1_1).2.2.1 = r3 := by rw [hv]
 have q4 : (ByCor.cornV Math.mulV a0_0 a0_1 a1_0 a1_1).2.2.2 = r4 := by rw [hv]
 clear hv
 have HC := fun W => Aside0.mk (ByCor.byCorners impl_IvMul.areIvs 39 Math.mulV impl_IvMul.enters impl_IvMul.num a0_0 a0_1 a1_0 a1_1 h0 h1 h2 h3 W)
 rw [q1, q2, q3, q4] at HC
 clear q1 q2 q3 q4 h0 h1 h2 h3
 go_enter Try.func31, Try.ntmps31
 go_wp2_with fail
 refine (HC _).out.mono ?_
 rintro e w1 ⟨rfl, hb1⟩
 have s1 : w.heap.size + 3 ≤ w1.heap.size := by have := hb1.size; simpa using this
 have BV : w1.heap[w.heap.size + 2]? = some (.cells #[.int .i64 0, .int .i64 0, .bool false, .int .i64 0] 28 (0, 0)) := (hb1.block (w.heap.size + 2) (by simp)).trans (by have h_ := blk_new ((w.alloc (.cells #[.int .i64 a0_0, .int .i64 a0_1] 25 (0, 0))).alloc (.cells #[.int .i64 a1_0, .int .i64 a1_1] 25 (0, 0))) (.cells #[.int .i64 0, .int .i64 0, .bool false, .int .i64 0] 28 (0, 0)); simpa using h_)
 have HBW : Below w.heap.size w w1 := (below_alloc (below_alloc (below_alloc (Below.refl w.heap.size w) (.cells #[.int .i64 a0_0, .int .i64 a0_1] 25 (0, 0))) (.cells #[.int .i64 a1_0, .int .i64 a1_1] 25 (0, 0))) (.cells #[.int .i64 0, .int .i64 0, .bool false, .int .i64 0] 28 (0, 0))).trans (hb1.mono (by simp only [World.size_alloc]; omega))
 have z0 : w1.cell? ⟨w.heap.size + 2, 0, none⟩ = some (.int .i64 0) := (blk_cell BV 0).trans rfl
 have z1 : w1.cell? ⟨w.heap.size + 2, 1, none⟩ = some (.int .i64 0) := (blk_cell BV 1).trans rfl
 have z2 : w1.cell? ⟨w.heap.size + 2, 2, none⟩ = some (.bool false) := (blk_cell BV 2).trans rfl
 have z3 : w1.cell? ⟨w.heap.size + 2, 3, none⟩ = some (.int .i64 0) := (blk_cell BV 3).trans rfl
 have q0 := blk_frozen BV 0
 have q1 := blk_frozen BV 1
 have q2 := blk_frozen BV 2
 have q3 := blk_frozen BV 3
 have HV := Aside0.mk BV
 have HB := Aside0.mk HBW
 clear BV HBW HC hb1
 go_wp2
 (try simp only [Exit.inBlock, Exit.then])
 refine bodyPost_ret (results_cell_row rfl _ _ (w.heap.size + 2) 28 #[.int .i64 r1, .int .i64 r2, .bool r3, .int .i64 r4] (0, 0) _ rfl (blk_put (blk_put (blk_put (blk_put HV.out 0 _ rfl) 1 _ rfl) 2 _ rfl) 3 _ rfl) Try.underlying28 rfl (by kernel_rfl)) rfl ?_
 exact ⟨rfl, (((HB.out.setCell (p := ⟨w.heap.size + 2, 0, none⟩) (Nat.le_add_right _ _) _).setCell (p := ⟨w.heap.size + 2, 1, none⟩) (Nat.le_add_right _ _) _).setCell (p := ⟨w.heap.size + 2, 2, none⟩) (Nat.le_add_right _ _) _).setCell (p := ⟨w.heap.size + 2, 3, none⟩) (Nat.le_add_right _ _) _⟩

/-! ### spec_IvMul: function 32 -/
def spec_IvMul.f (k : Nat) (a0_0 : Int) (a0_1 : Int) (a1_0 : Int) (a1_1 : Int) : Option (Int × Int × Bool × Int) := (spec_l2Op.f k 42 a0_0 a0_1 a1_0 a1_1).bind fun bt177 => (some (bt177.1, bt177.2.1, bt177.2.2.1, bt177.2.2.2))
theorem spec_IvMul.mono : ∀ a0 a1 a2 a3 k, LeO (spec_IvMul.f k a0 a1 a2 a3) (spec_IvMul.f (k + 1) a0 a1 a2 a3) := by
 intro a0 a1 a2 a3 k
 unfold spec_IvMul.f
 repeat' first
   | (with_reducible exact spec_l2Op.mono _ _ _ _ _ _)
   | (with_reducible exact LeO.refl _)
   | (with_reducible exact LeO.none _)
   | (with_reducible refine LeO.ite ?_ ?_)
   | (with_reducible refine LeO.bind ?_ (fun _ => ?_))
   | exact spec_l2Op.mono _ _ _ _ _ _
   | exact LeO.none _
   | refine LeO.ite ?_ ?_
   | refine LeO.bind ?_ (fun _ => ?_)
set_option maxHeartbeats 8000000 in
set_option maxRecDepth 100000 in
theorem spec_IvMul.calls (k : Nat) (a0_0 : Int) (a0_1 : Int) (a1_0 : Int) (a1_1 : Int) (r1 : Int) (r2 : Int) (r3 : Bool) (r4 : Int) (w : World) (h : spec_IvMul.f k a0_0 a0_1 a1_0 a1_1 = some (r1, r2, r3, r4)) :
  Calls Try.prog 32 #[.agg #[.int .i64 a0_0, .int .i64 a0_1], .agg #[.int .i64 a1_0, .int .i64 a1_1]] w fun e w' => e = .returned (.agg #[.int .i64 r1, .int .i64 r2, .bool r3, .int .i64 r4]) ∧ Below w.heap.size w w' := by
 have hu25 := Try.underlying25
 have hu28 := Try.underlying28
 have HB := Aside0.mk (Below.refl w.heap.size w)
 have H : ((spec_l2Op.f k 42 a0_0 a0_1 a1_0 a1_1).bind fun bt177 => (some (bt177.1, bt177.2.1, bt177.2.2.1, bt177.2.2.2))) = some (r1, r2, r3, r4) := h
 clear h
 replace H := Option.bind_eq_some_iff.mp H
 obtain ⟨⟨t177, t178, t179, t180⟩, A30, H⟩ := H
 replace H : (some (t177, t178, t179, t180)) = some (r1, r2, r3, r4) := H
 have A3 := Aside0.mk A30
 clear A30
 simp only [Option.some.injEq, Prod.mk.injEq] at H
 obtain ⟨rfl, rfl, rfl, rfl⟩ := H
 go_enter Try.func32, Try.ntmps32
 go_wp2_with (first | ((with_reducible refine gate_dst (N := 2) rfl ?_); refine box_event rfl rfl (cs := #[.int .i64 a0_0, .int .i64 a0_1]) (t := 25) (by first | (go_simp; done) | (go_simp; rfl)) ?_; intro gb174 hg w4 hbox hb; have BK174 := Aside0.mk (hbox); have GW174 := bz HB hg; have GE174 := bz HB hg; replace HB := bs HB hb; clear hb hbox hg) | ((with_reducible refine gate_dst (N := 3) rfl ?_); refine box_event rfl rfl (cs := #[.int .i64 a1_0, .int .i64 a1_1]) (t := 25) (by first | (go_simp; done) | (go_simp; rfl)) ?_; intro gb175 hg w5 hbox hb; have BK175 := Aside0.mk (hbox); have GW175 := bz HB hg; have GE175 := bz HB hg; replace HB := bs HB hb; have NB174_175 := bl BK174 hg; have NB175_174 := bg BK174 hg; replace BK174 := bb BK174 hb; clear hb hbox hg) | ((with_reducible refine gate_dst (N := 4) rfl ?_); refine box_event rfl rfl (cs := #[.int .i64 0, .int .i64 0, .bool false, .int .i64 0]) (t := 28) (by first | (go_simp; done) | (go_simp; rfl)) ?_; intro gb176 hg w6 hbox hb; have BK176 := Aside0.mk (hbox); have GW176 := bz HB hg; have GE176 := bz HB hg; replace HB := bs HB hb; have NB174_176 := bl BK174 hg; have NB176_174 := bg BK174 hg; replace BK174 := bb BK174 hb; have NB175_176 := bl BK175 hg; have NB176_175 := bg BK175 hg; replace BK175 := bb BK175 hb; clear hb hbox hg; have hnb7 := NB174_175.out; have hnc7 := NB175_174.out; have hnb8 := NB174_176.out; have hnc8 := NB176_174.out; have hcz9_0 : w6.cell? ⟨gb174, 0, none⟩ = some (.int .i64 a0_0) := (blk_cell BK174.out 0).trans rfl; have hcz9_1 : w6.cell? ⟨gb174, 1, none⟩ = some (.int .i64 a0_1) := (blk_cell BK174.out 1).trans rfl; have hfz9_0 := blk_frozen BK174.out 0; have hfz9_1 := blk_frozen BK174.out 1; have hnb10 := NB175_176.out; have hnc10 := NB176_175.out; have hcz11_0 : w6.cell? ⟨gb175, 0, none⟩ = some (.int .i64 a1_0) := (blk_cell BK175.out 0).trans rfl; have hcz11_1 : w6.cell? ⟨gb175, 1, none⟩ = some (.int .i64 a1_1) := (blk_cell BK175.out 1).trans rfl; have hfz11_0 := blk_frozen BK175.out 0; have hfz11_1 := blk_frozen BK175.out 1) | ((with_reducible refine gate_callee (f := 48) rfl ?_); refine goesL_ (some 7) rfl rfl Try.func48 (by kernel_rfl) rfl #[.int .i64 42, .agg #[.int .i64 a0_0, .int .i64 a0_1], .agg #[.int .i64 a1_0, .int .i64 a1_1]] rfl (by (try simp only [List.map_toArray, List.map_cons, List.map_nil]); first | done | rfl | (simp only [List.length_drop, List.length_take]; rfl)) ?_; (with_reducible refine (spec_l2Op.calls k 42 a0_0 a0_1 a1_0 a1_1 t177 t178 t179 t180 _ A3.out).mono ?_); rintro e w12 ⟨rfl, hb⟩; refine ⟨_, rfl, ?_⟩; replace BK174 := bb BK174 hb; replace BK175 := bb BK175 hb; replace BK176 := bb BK176 hb; replace HB := bs HB hb; (try clear hb); (try clear hb2); (try clear hk); (try clear hi); have hcz13_0 : w12.cell? ⟨gb176, 0, none⟩ = some (.int .i64 0) := (blk_cell BK176.out 0).trans rfl; have hcz13_1 : w12.cell? ⟨gb176, 1, none⟩ = some (.int .i64 0) := (blk_cell BK176.out 1).trans rfl; have hcz13_2 : w12.cell? ⟨gb176, 2, none⟩ = some (.bool false) := (blk_cell BK176.out 2).trans rfl; have hcz13_3 : w12.cell? ⟨gb176, 3, none⟩ = some (.int .i64 0) := (blk_cell BK176.out 3).trans rfl; have hfz13_0 := blk_frozen BK176.out 0; have hfz13_1 := blk_frozen BK176.out 1; have hfz13_2 := blk_frozen BK176.out 2; have hfz13_3 := blk_frozen BK176.out 3))
 refine bodyPost_ret (results_cell_row rfl _ _ gb176 28 #[.int .i64 t177, .int .i64 t178, .bool t179, .int .i64 t180] (0, 0) _ rfl (by (with_reducible repeat (first | refine blk_drewN ?_ _ | refine blk_drew ?_ | refine blk_alloc ?_ _)); refine blk_put (cs := #[.int .i64 t177, .int .i64 t178, .bool t179, .int .i64 0]) ?_ 3 _ rfl; (with_reducible repeat (first | refine blk_drewN ?_ _ | refine blk_drew ?_ | refine blk_alloc ?_ _)); refine blk_put (cs := #[.int .i64 t177, .int .i64 t178, .bool false, .int .i64 0]) ?_ 2 _ rfl; (with_reducible repeat (first | refine blk_drewN ?_ _ | refine blk_drew ?_ | refine blk_alloc ?_ _)); refine blk_put (cs := #[.int .i64 t177, .int .i64 0, .bool false, .int .i64 0]) ?_ 1 _ rfl; (with_reducible repeat (first | refine blk_drewN ?_ _ | refine blk_drew ?_ | refine blk_alloc ?_ _)); refine blk_put (cs := #[.int .i64 0, .int .i64 0, .bool false, .int .i64 0]) ?_ 0 _ rfl; (with_reducible repeat (first | refine blk_drewN ?_ _ | refine blk_drew ?_ | refine blk_alloc ?_ _)); exact BK176.out) Try.underlying28 rfl (by kernel_rfl)) rfl ?_
 exact ⟨by first | rfl | (simp [errW_none, errW_some] <;> rfl) | (simp [*, errW_none, errW_some] <;> rfl), bw HB⟩

/-! ### impl_NumQuo: function 40 -/
def impl_NumQuo.f (a0 : Int) (a1 : Int) : Option (Int × Int) := if a1 = 0 then (some (0, 0)) else (if a0 = (-9223372036854775808) then (if a1 = (-1) then (some (0, 1)) else (some (wrap64 (Int.tdiv a0 a1), 0))) else (some (wrap64 (Int.tdiv a0 a1), 0)))
set_option maxHeartbeats 8000000 in
set_option maxRecDepth 100000 in
theorem impl_NumQuo.calls (a0 : Int) (a1 : Int) (r1 : Int) (r2 : Int) (w : World) (h : impl_NumQuo.f a0 a1 = some (r1, r2)) :
  Calls Try.prog 40 #[.int .i64 a0, .int .i64 a1] w fun e w' => e = .returned (.tuple #[.int .i64 r1, .int .i64 r2]) ∧ Drawn0 w w' := by
 have H : (if a1 = 0 then (some (0, 0)) else (if a0 = (-9223372036854775808) then (if a1 = (-1) then (some (0, 1)) else (some (wrap64 (Int.tdiv a0 a1), 0))) else (some (wrap64 (Int.tdiv a0 a1), 0)))) = some (r1, r2) := h
 clear h
 by_cases c3 : a1 = 0
 ·rw [if_pos c3] at H
  have c3b0 : (a1 == 0) = true := beq_iff_eq.mpr c3
  have c3b1 : (a1 != 0) = false := bne_eq_false_iff_eq.mpr c3
  clear c3
  simp only [Option.some.injEq, Prod.mk.injEq] at H
  obtain ⟨rfl, rfl⟩ := H
  go_enter Try.func40, Try.ntmps40
  go_wp2
  go_ret2
  exact ⟨by first | rfl | (simp; done) | (simp [*]; done), by repeat (first | exact Drawn0.refl _ | apply Drawn0.step)⟩
 ·rw [if_neg c3] at H
  have c3b0 : (a1 == 0) = false := beq_eq_false_iff_ne.mpr c3
  have c3b1 : (a1 != 0) = true := bne_iff_ne.mpr c3
  by_cases c4 : a0 = (-9223372036854775808)
  ·rw [if_pos c4] at H
   have c4b0 : (a0 == (-9223372036854775808)) = true := beq_iff_eq.mpr c4
   have c4b1 : (a0 != (-9223372036854775808)) = false := bne_eq_false_iff_eq.mpr c4
   clear c4
   by_cases c5 : a1 = (-1)
   ·rw [if_pos c5] at H
    have c5b0 : (a1 == (-1)) = true := beq_iff_eq.mpr c5
    have c5b1 : (a1 != (-1)) = false := bne_eq_false_iff_eq.mpr c5
    clear c5
    simp only [Option.some.injEq, Prod.mk.injEq] at H
    obtain ⟨rfl, rfl⟩ := H
    go_enter Try.func40, Try.ntmps40
    go_wp2
    go_ret2
    exact ⟨by first | rfl | (simp; done) | (simp [*]; done), by repeat (first | exact Drawn0.refl _ | apply Drawn0.step)⟩
   ·rw [if_neg c5] at H
    have c5b0 : (a1 == (-1)) = false := beq_eq_false_iff_ne.mpr c5
    have c5b1 : (a1 != (-1)) = true := bne_iff_ne.mpr c5
    simp only [Option.some.injEq, Prod.mk.injEq] at H
    obtain ⟨rfl, rfl⟩ := H
    go_enter Try.func40, Try.ntmps40
    go_wp2
    go_ret2
    exact ⟨by first | rfl | (simp; done) | (simp [*]; done), by repeat (first | exact Drawn0.refl _ | apply Drawn0.step)⟩
  ·rw [if_neg c4] at H
   have c4b0 : (a0 == (-9223372036854775808)) = false := beq_eq_false_iff_ne.mpr c4
   have c4b1 : (a0 != (-9223372036854775808)) = true := bne_iff_ne.mpr c4
   simp only [Option.some.injEq, Prod.mk.injEq] at H
   obtain ⟨rfl, rfl⟩ := H
   go_enter Try.func40, Try.ntmps40
   go_wp2
   go_ret2
   exact ⟨by first | rfl | (simp; done) | (simp [*]; done), by repeat (first | exact Drawn0.refl _ | apply Drawn0.step)⟩

/-! ### impl_within: function 65 -/
def impl_within.f (a0 : Int) (a1 : Int) (a2 : Int) : Option (Bool) := if a1 ≤ a0 then (some (decide (a0 ≤ a2))) else (some false)
set_option maxHeartbeats 8000000 in
set_option maxRecDepth 100000 in
theorem impl_within.calls (a0 : Int) (a1 : Int) (a2 : Int) (r : Bool) (w : World) (h : impl_within.f a0 a1 a2 = some r) :
  Calls Try.prog 65 #[.int .i64 a0, .int .i64 a1, .int .i64 a2] w fun e w' => e = .returned (.bool r) ∧ Drawn0 w w' := by
 have H : (if a1 ≤ a0 then (some (decide (a0 ≤ a2))) else (some false)) = some r := h
 clear h
 by_cases c4 : a1 ≤ a0
 ·rw [if_pos c4] at H
  have c4b0 : decide (a1 ≤ a0) = true := decide_eq_true c4
  clear c4
  obtain rfl := Option.some.inj H
  go_enter Try.func65, Try.ntmps65
  go_wp2
  go_ret
  exact ⟨by first | rfl | (simp; done) | (simp [*]; done), by repeat (first | exact Drawn0.refl _ | apply Drawn0.step)⟩
 ·rw [if_neg c4] at H
  have c4b0 : decide (a1 ≤ a0) = false := decide_eq_false c4
  clear c4
  obtain rfl := Option.some.inj H
  go_enter Try.func65, Try.ntmps65
  go_wp2
  go_ret
  exact ⟨by first | rfl | (simp; done) | (simp [*]; done), by repeat (first | exact Drawn0.refl _ | apply Drawn0.step)⟩

/-! ### impl_Interval_has: function 44 -/
def impl_Interval_has.f (a0_0 : Int) (a0_1 : Int) (a1 : Int) : Option (Bool) := (impl_within.f a1 a0_0 a0_1).bind fun t182 => (some t182)
set_option maxHeartbeats 8000000 in
set_option maxRecDepth 100000 in
theorem impl_Interval_has.calls (a0_0 : Int) (a0_1 : Int) (a1 : Int) (r : Bool) (w : World) (h : impl_Interval_has.f a0_0 a0_1 a1 = some r) :
  Calls Try.prog 44 #[.agg #[.int .i64 a0_0, .int .i64 a0_1], .int .i64 a1] w fun e w' => e = .returned (.bool r) ∧ Below w.heap.size w w' := by
 have hu25 := Try.underlying25
 have HB := Aside0.mk (Below.refl w.heap.size w)
 have H : ((impl_within.f a1 a0_0 a0_1).bind fun t182 => (some t182)) = some r := h
 clear h
 replace H := Option.bind_eq_some_iff.mp H
 obtain ⟨t182, A30, H⟩ := H
 replace H : (some t182) = some r := H
 have A3 := Aside0.mk A30
 clear A30
 obtain rfl := Option.some.inj H
 go_enter Try.func44, Try.ntmps44
 go_wp2_with (first | ((with_reducible refine gate_dst (N := 2) rfl ?_); refine box_event rfl rfl (cs := #[.int .i64 a0_0, .int .i64 a0_1]) (t := 25) (by first | (go_simp; done) | (go_simp; rfl)) ?_; intro gb181 hg w4 hbox hb; have BK181 := Aside0.mk (hbox); have GW181 := bz HB hg; have GE181 := bz HB hg; replace HB := bs HB hb; clear hb hbox hg; have hcz5_0 : w4.cell? ⟨gb181, 0, none⟩ = some (.int .i64 a0_0) := (blk_cell BK181.out 0).trans rfl; have hcz5_1 : w4.cell? ⟨gb181, 1, none⟩ = some (.int .i64 a0_1) := (blk_cell BK181.out 1).trans rfl; have hfz5_0 := blk_frozen BK181.out 0; have hfz5_1 := blk_frozen BK181.out 1) | ((with_reducible refine gate_callee (f := 65) rfl ?_); refine goesL_ (some 10) rfl rfl Try.func65 (by kernel_rfl) rfl #[.int .i64 a1, .int .i64 a0_0, .int .i64 a0_1] rfl (by (try simp only [List.map_toArray, List.map_cons, List.map_nil]); first | done | rfl | (simp only [List.length_drop, List.length_take]; rfl)) ?_; (with_reducible refine (impl_within.calls a1 a0_0 a0_1 t182 _ A3.out).mono ?_); rintro e w' ⟨rfl, ⟨nd, rfl⟩⟩; refine ⟨_, rfl, ?_⟩))
 go_ret
 exact ⟨by first | rfl | (simp [errW_none, errW_some] <;> rfl) | (simp [*, errW_none, errW_some] <;> rfl), bw HB⟩

end Go.Proofs.Ytdjhalelgknnkaa.Q
