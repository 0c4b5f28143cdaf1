-- Contracts of the program's functions, each with the plain function that it computes.
import Derived.Test.YtdjhalelgknnkaaQx0
import Derived.Test.YtdjhalelgknnkaaQx2
namespace Go.Proofs.Ytdjhalelgknnkaa.Q
open Go.RowKit Go.Proofs.YtdjhalelgknnkaaW.PrintWords Go.Proofs.YtdjhalelgknnkaaW.PrintLast Go.Proofs.YtdjhalelgknnkaaW.PrintMore
attribute [local go_sem] max2_int min2_int max_two min_two max_three min_three max_four min_four   -- for this text's walks alone
set_option linter.unusedVariables false
set_option linter.unusedSimpArgs false

/-! ### impl_IvSub: function 26 -/
def impl_IvSub.f (a0_0 : Int) (a0_1 : Int) (a1_0 : Int) (a1_1 : Int) : Option (Int × Int × Bool × Int) := if (-9223372036854775808 ≤ a0_0 ∧ a0_0 ≤ 9223372036854775807) ∧ (-9223372036854775808 ≤ a0_1 ∧ a0_1 ≤ 9223372036854775807) ∧ (-9223372036854775808 ≤ a1_0 ∧ a1_0 ≤ 9223372036854775807) ∧ (-9223372036854775808 ≤ a1_1 ∧ a1_1 ≤ 9223372036854775807) then some (ByCor.cornV Math.subV a0_0 a0_1 a1_0 a1_1) else none
theorem impl_IvSub.areIvs : ByCor.AreIvs := by
 intro a b c d w
 refine (impl_areIvs.calls a b c d (decide (a ≤ b ∧ c ≤ d)) w ?_).mono fun e w' h => ⟨h.1, (by first | exact h.2 | exact h.2.below)⟩
 simp only [impl_areIvs.f, impl_IvOk.f, Option.bind_some]
 by_cases h1 : a ≤ b <;> by_cases h2 : c ≤ d <;> simp [h1, h2]
theorem impl_IvSub.num (x y : Int) (W : World) (hx : -9223372036854775808 ≤ x ∧ x ≤ 9223372036854775807) (hy : -9223372036854775808 ≤ y ∧ y ≤ 9223372036854775807) : Calls Try.prog 38 #[.int .i64 x, .int .i64 y] W fun e w' => e = .returned (.tuple #[.int .i64 (Math.subV x y).1, .int .i64 (Math.subV x y).2]) ∧ Drawn0 W w' :=
 impl_NumSub.calls x y _ _ W (by rw [show impl_NumSub.f x y = some (Math.subV x y) from if_pos ⟨hx, hy⟩])
theorem impl_IvSub.enters : ∀ args w, (callFunc 38 args).run Try.prog w = .ok (.enter 38 args) w := by
 intro args w
 first | rfl | (go_simp; done) | (simp [callFunc, go_sem]; done) | (unfold callFunc; go_simp)
set_option maxHeartbeats 2000000 in
theorem impl_IvSub.calls (a0_0 : Int) (a0_1 : Int) (a1_0 : Int) (a1_1 : Int) (r1 : Int) (r2 : Int) (r3 : Bool) (r4 : Int) (w : World) (h : impl_IvSub.f a0_0 a0_1 a1_0 a1_1 = some (r1, r2, r3, r4)) :
  Calls Try.prog 26 #[.agg #[.int .i64 a0_0, .int .i64 a0_1], .agg #[.int .i64 a1_0, .int .i64 a1_1]] w fun e w' => e = .returned (.agg #[.int .i64 r1, .int .i64 r2, .bool r3, .int .i64 r4]) ∧ Below w.heap.size w w' := by
 unfold impl_IvSub.f at h
 split at h
 case isFalse => exact absurd h (by simp)
 rename_i hb
 obtain ⟨h0, h1, h2, h3⟩ := hb
 have hv := Option.some.inj h
 clear h
 have q1 : (ByCor.cornV Math.subV a0_0 a0_1 a1_0 a1_1).1 = r1 := by rw [hv]
 have q2 : (ByCor.cornV Math.subV a0_0 a0_1 a1_0 a1_1).2.1 = r2 := by rw [hv]
 have q3 : (ByCor.cornV Math.subV a0_0 a0_1 a1_0 a1_1).2.2.1 = r3 := by rw [hv]
 have q4 : (ByCor.cornV Math.subV a0_0 a0_1 a1_0 a1_1).2.2.2 = r4 := by rw [hv]
 clear hv
 have HC := fun W => Aside0.mk (ByCor.byCorners impl_IvSub.areIvs 38 Math.subV impl_IvSub.enters impl_IvSub.num a0_0 a0_1 a1_0 a1_1 h0 h1 h2 h3 W)
 rw [q1, q2, q3, q4] at HC
 clear q1 q2 q3 q4 h0 h1 h2 h3
 go_enter Try.func26, Try.ntmps26
 go_wp2_with fail
 refine (HC _).out.mono ?_
 rintro e w1 ⟨rfl, hb1⟩
 have s1 : w.heap.size + 3 ≤ w1.heap.size := by have := hb1.size; simpa using this
 have BV : w1.heap[w.heap.size + 2]? = some (.cells #[.int .i64 0, .int .i64 0, .bool false, .int .i64 0] 28 (0, 0)) := (hb1.block (w.heap.size + 2) (by simp)).trans (by have h_ := blk_new ((w.alloc (.cells #[.int .i64 a0_0, .int .i64 a0_1] 25 (0, 0))).alloc (.cells #[.int .i64 a1_0, .int .i64 a1_1] 25 (0, 0))) (.cells #[.int .i64 0, .int .i64 0, .bool false, .int .i64 0] 28 (0, 0)); simpa using h_)
 have HBW : Below w.heap.size w w1 := (below_alloc (below_alloc (below_alloc (Below.refl w.heap.size w) (.cells #[.int .i64 a0_0, .int .i64 a0_1] 25 (0, 0))) (.cells #[.int .i64 a1_0, .int .i64 a1_1] 25 (0, 0))) (.cells #[.int .i64 0, .int .i64 0, .bool false, .int .i64 0] 28 (0, 0))).trans (hb1.mono (by simp only [World.size_alloc]; omega))
 have z0 : w1.cell? ⟨w.heap.size + 2, 0, none⟩ = some (.int .i64 0) := (blk_cell BV 0).trans rfl
 have z1 : w1.cell? ⟨w.heap.size + 2, 1, none⟩ = some (.int .i64 0) := (blk_cell BV 1).trans rfl
 have z2 : w1.cell? ⟨w.heap.size + 2, 2, none⟩ = some (.bool false) := (blk_cell BV 2).trans rfl
 have z3 : w1.cell? ⟨w.heap.size + 2, 3, none⟩ = some (.int .i64 0) := (blk_cell BV 3).trans rfl
 have q0 := blk_frozen BV 0
 have q1 := blk_frozen BV 1
 have q2 := blk_frozen BV 2
 have q3 := blk_frozen BV 3
 have HV := Aside0.mk BV
 have HB := Aside0.mk HBW
 clear BV HBW HC hb1
 go_wp2
 (try simp only [Exit.inBlock, Exit.then])
 refine bodyPost_ret (results_cell_row rfl _ _ (w.heap.size + 2) 28 #[.int .i64 r1, .int .i64 r2, .bool r3, .int .i64 r4] (0, 0) _ rfl (blk_put (blk_put (blk_put (blk_put HV.out 0 _ rfl) 1 _ rfl) 2 _ rfl) 3 _ rfl) Try.underlying28 rfl (by kernel_rfl)) rfl ?_
 exact ⟨rfl, (((HB.out.setCell (p := ⟨w.heap.size + 2, 0, none⟩) (Nat.le_add_right _ _) _).setCell (p := ⟨w.heap.size + 2, 1, none⟩) (Nat.le_add_right _ _) _).setCell (p := ⟨w.heap.size + 2, 2, none⟩) (Nat.le_add_right _ _) _).setCell (p := ⟨w.heap.size + 2, 3, none⟩) (Nat.le_add_right _ _) _⟩

/-! ### spec_IvOk: function 12 -/
def spec_IvOk.f (a0_0 : Int) (a0_1 : Int) : Option (Bool) := some (decide (a0_0 ≤ a0_1))
set_option maxHeartbeats 8000000 in
set_option maxRecDepth 100000 in
theorem spec_IvOk.calls (a0_0 : Int) (a0_1 : Int) (r : Bool) (w : World) (h : spec_IvOk.f a0_0 a0_1 = some r) :
  Calls Try.prog 12 #[.agg #[.int .i64 a0_0, .int .i64 a0_1]] w fun e w' => e = .returned (.bool r) ∧ Below w.heap.size w w' := by
 have hu25 := Try.underlying25
 have HB := Aside0.mk (Below.refl w.heap.size w)
 have H : (some (decide (a0_0 ≤ a0_1))) = some r := h
 clear h
 obtain rfl := Option.some.inj H
 go_enter Try.func12, Try.ntmps12
 go_wp2_with (((with_reducible refine gate_dst (N := 1) rfl ?_); refine box_event rfl rfl (cs := #[.int .i64 a0_0, .int .i64 a0_1]) (t := 25) (by first | (go_simp; done) | (go_simp; rfl)) ?_; intro gb107 hg w2 hbox hb; have BK107 := Aside0.mk (hbox); have GW107 := bz HB hg; have GE107 := bz HB hg; replace HB := bs HB hb; clear hb hbox hg; have hcz3_0 : w2.cell? ⟨gb107, 0, none⟩ = some (.int .i64 a0_0) := (blk_cell BK107.out 0).trans rfl; have hcz3_1 : w2.cell? ⟨gb107, 1, none⟩ = some (.int .i64 a0_1) := (blk_cell BK107.out 1).trans rfl; have hfz3_0 := blk_frozen BK107.out 0; have hfz3_1 := blk_frozen BK107.out 1))
 go_ret
 exact ⟨by first | rfl | (simp [errW_none, errW_some] <;> rfl) | (simp [*, errW_none, errW_some] <;> rfl), bw HB⟩

/-! ### spec_NumAdd: function 64 -/
def spec_NumAdd.f (a0 : Int) (a1 : Int) : Option (Int × Int) := if (-9223372036854775808 ≤ a0 ∧ a0 ≤ 9223372036854775807) ∧ (-9223372036854775808 ≤ a1 ∧ a1 ≤ 9223372036854775807) then some (Math.addV a0 a1) else none
set_option maxHeartbeats 1000000 in
theorem spec_NumAdd.calls (a0 : Int) (a1 : Int) (r1 : Int) (r2 : Int) (w : World) (h : spec_NumAdd.f a0 a1 = some (r1, r2)) :
  Calls Try.prog 64 #[.int .i64 a0, .int .i64 a1] w fun e w' => e = .returned (.tuple #[.int .i64 r1, .int .i64 r2]) ∧ Drawn0 w w' := by
 unfold spec_NumAdd.f at h
 split at h
 case isFalse => exact absurd h (by simp)
 rename_i hb
 obtain ⟨⟨l0, u0⟩, l1, u1⟩ := hb
 have hv := Option.some.inj h
 clear h
 by_cases p : 0 < a1
 ·by_cases q : 9223372036854775807 - a1 < a0
  ·have e : Math.addV a0 a1 = (0, 1) := by unfold Math.addV; rw [if_pos (by omega)]
   rw [e] at hv
   simp only [Prod.mk.injEq] at hv
   obtain ⟨rfl, rfl⟩ := hv
   clear e
   go_enter Try.func64, Try.ntmps64
   go_wp2
   go_ret2
   exact ⟨rfl, by repeat (first | exact Drawn0.refl _ | apply Drawn0.step)⟩
  ·have e : Math.addV a0 a1 = (a0 + a1, 0) := by unfold Math.addV; rw [if_neg (by omega), if_neg (by omega)]
   rw [e] at hv
   simp only [Prod.mk.injEq] at hv
   obtain ⟨rfl, rfl⟩ := hv
   clear e
   go_enter Try.func64, Try.ntmps64
   go_wp2
   go_ret2
   exact ⟨rfl, by repeat (first | exact Drawn0.refl _ | apply Drawn0.step)⟩
 ·by_cases p2 : a1 < 0
  ·by_cases q : a0 < -9223372036854775808 - a1
   ·have e : Math.addV a0 a1 = (0, -1) := by unfold Math.addV; rw [if_neg (by omega), if_pos (by omega)]
    rw [e] at hv
    simp only [Prod.mk.injEq] at hv
    obtain ⟨rfl, rfl⟩ := hv
    clear e
    go_enter Try.func64, Try.ntmps64
    go_wp2
    go_ret2
    exact ⟨rfl, by repeat (first | exact Drawn0.refl _ | apply Drawn0.step)⟩
   ·have e : Math.addV a0 a1 = (a0 + a1, 0) := by unfold Math.addV; rw [if_neg (by omega), if_neg (by omega)]
    rw [e] at hv
    simp only [Prod.mk.injEq] at hv
    obtain ⟨rfl, rfl⟩ := hv
    clear e
    go_enter Try.func64, Try.ntmps64
    go_wp2
    go_ret2
    exact ⟨rfl, by repeat (first | exact Drawn0.refl _ | apply Drawn0.step)⟩
  ·have z : a1 = 0 := by omega
   subst z
   clear p p2
   have e : Math.addV a0 0 = (a0, 0) := by unfold Math.addV; rw [if_neg (by omega), if_neg (by omega)]; simp
   rw [e] at hv
   simp only [Prod.mk.injEq] at hv
   obtain ⟨rfl, rfl⟩ := hv
   clear e
   go_enter Try.func64, Try.ntmps64
   go_wp2
   go_ret2
   exact ⟨rfl, by repeat (first | exact Drawn0.refl _ | apply Drawn0.step)⟩

/-! ### spec_NumSub: function 76 -/
def spec_NumSub.f (a0 : Int) (a1 : Int) : Option (Int × Int) := if (-9223372036854775808 ≤ a0 ∧ a0 ≤ 9223372036854775807) ∧ (-9223372036854775808 ≤ a1 ∧ a1 ≤ 9223372036854775807) then some (Math.subV a0 a1) else none
set_option maxHeartbeats 1000000 in
theorem spec_NumSub.calls (a0 : Int) (a1 : Int) (r1 : Int) (r2 : Int) (w : World) (h : spec_NumSub.f a0 a1 = some (r1, r2)) :
  Calls Try.prog 76 #[.int .i64 a0, .int .i64 a1] w fun e w' => e = .returned (.tuple #[.int .i64 r1, .int .i64 r2]) ∧ Drawn0 w w' := by
 unfold spec_NumSub.f at h
 split at h
 case isFalse => exact absurd h (by simp)
 rename_i hb
 obtain ⟨⟨l0, u0⟩, l1, u1⟩ := hb
 have hv := Option.some.inj h
 clear h
 by_cases p : a1 < 0
 ·by_cases q : 9223372036854775807 + a1 < a0
  ·have e : Math.subV a0 a1 = (0, 1) := by unfold Math.subV; rw [if_pos (by omega)]
   rw [e] at hv
   simp only [Prod.mk.injEq] at hv
   obtain ⟨rfl, rfl⟩ := hv
   clear e
   go_enter Try.func76, Try.ntmps76
   go_wp2
   go_ret2
   exact ⟨rfl, by repeat (first | exact Drawn0.refl _ | apply Drawn0.step)⟩
  ·have e : Math.subV a0 a1 = (a0 - a1, 0) := by unfold Math.subV; rw [if_neg (by omega), if_neg (by omega)]
   rw [e] at hv
   simp only [Prod.mk.injEq] at hv
   obtain ⟨rfl, rfl⟩ := hv
   clear e
   go_enter Try.func76, Try.ntmps76
   go_wp2
   go_ret2
   exact ⟨rfl, by repeat (first | exact Drawn0.refl _ | apply Drawn0.step)⟩
 ·by_cases p2 : 0 < a1
  ·by_cases q : a0 < -9223372036854775808 + a1
   ·have e : Math.subV a0 a1 = (0, -1) := by unfold Math.subV; rw [if_neg (by omega), if_pos (by omega)]
    rw [e] at hv
    simp only [Prod.mk.injEq] at hv
    obtain ⟨rfl, rfl⟩ := hv
    clear e
    go_enter Try.func76, Try.ntmps76
    go_wp2
    go_ret2
    exact ⟨rfl, by repeat (first | exact Drawn0.refl _ | apply Drawn0.step)⟩
   ·have e : Math.subV a0 a1 = (a0 - a1, 0) := by unfold Math.subV; rw [if_neg (by omega), if_neg (by omega)]
    rw [e] at hv
    simp only [Prod.mk.injEq] at hv
    obtain ⟨rfl, rfl⟩ := hv
    clear e
    go_enter Try.func76, Try.ntmps76
    go_wp2
    go_ret2
    exact ⟨rfl, by repeat (first | exact Drawn0.refl _ | apply Drawn0.step)⟩
  ·have z : a1 = 0 := by omega
   subst z
   clear p p2
   have e : Math.subV a0 0 = (a0, 0) := by unfold Math.subV; rw [if_neg (by omega), if_neg (by omega)]; simp
   rw [e] at hv
   simp only [Prod.mk.injEq] at hv
   obtain ⟨rfl, rfl⟩ := hv
   clear e
   go_enter Try.func76, Try.ntmps76
   go_wp2
   go_ret2
   exact ⟨rfl, by repeat (first | exact Drawn0.refl _ | apply Drawn0.step)⟩

end Go.Proofs.Ytdjhalelgknnkaa.Q
