-- Contracts of the program's functions, each with the plain function that it computes.
import Derived.Test.YtcomagipdbdglaaDoorQx0
import Derived.Test.YtcomagipdbdglaaDoorQx57
namespace Go.Proofs.YtcomagipdbdglaaDoor.Q
open Go.RowKit Go.Proofs.YtcomagipdbdglaaDoorW.PrintWords Go.Proofs.YtcomagipdbdglaaDoorW.PrintLast Go.Proofs.YtcomagipdbdglaaDoorW.PrintMore
attribute [local go_sem] max2_int min2_int max_two min_two max_three min_three max_four min_four   -- for this text's walks alone
set_option linter.unusedVariables false
set_option linter.unusedSimpArgs false

/-! ### impl_Env_leq: function 79 -/
mutual
def impl_Env_leq.l0 : Nat → List (S78) → Int → Int → Bool → List (S78) → List (S78) → Bool → List (S78) → List (S78) → Option (Bool)
 | 0, _, _, _, _, _, _, _, _, _ => none
 | k + 1, x18, x19, x20, x494000, x494001, x494002, x495000, x495001, x495002 => if x20 < x19 then (if 0 ≤ x20 then (if x20 < (x18.length : Int) then (if x20 < (x495001.length : Int) then ((impl_IvLeq.f ((rd_T78 x18 x20).f0) ((rd_T78 x18 x20).f1) ((rd_T78 x495001 x20).f0) ((rd_T78 x495001 x20).f1)).bind fun t498 => (if t498 = true then (impl_Env_leq.l0 k x18 x19 (wrap64 (x20 + 1)) x494000 x494001 x494002 x495000 x495001 x495002) else (some false))) else (none)) else (none)) else (none)) else (impl_Env_leq.l1 k x494002 (x494002.length : Int) 0 x495000 x495001 x495002)
def impl_Env_leq.l1 : Nat → List (S78) → Int → Int → Bool → List (S78) → List (S78) → Option (Bool)
 | 0, _, _, _, _, _, _ => none
 | k + 1, x35, x36, x37, x495000, x495001, x495002 => if x37 < x36 then (if 0 ≤ x37 then (if x37 < (x35.length : Int) then (if x37 < (x495002.length : Int) then ((impl_IvLeq.f ((rd_T78 x35 x37).f0) ((rd_T78 x35 x37).f1) ((rd_T78 x495002 x37).f0) ((rd_T78 x495002 x37).f1)).bind fun t502 => (if t502 = true then (impl_Env_leq.l1 k x35 x36 (wrap64 (x37 + 1)) x495000 x495001 x495002) else (some false))) else (none)) else (none)) else (none)) else (some true)
end
def impl_Env_leq.f (k : Nat) (a0_0 : Bool) (l0_1 : List (S78)) (l0_2 : List (S78)) (a1_0 : Bool) (l1_1 : List (S78)) (l1_2 : List (S78)) : Option (Bool) := if a0_0 = true then (if a1_0 = true then (impl_Env_leq.l0 k l0_1 (l0_1.length : Int) 0 a0_0 l0_1 l0_2 a1_0 l1_1 l1_2) else (some false)) else (some true)
theorem impl_Env_leq.mono_l : ∀ k, (∀ y0 y1 y2 y3 y4 y5 y6 y7 y8, LeO (impl_Env_leq.l0 k y0 y1 y2 y3 y4 y5 y6 y7 y8) (impl_Env_leq.l0 (k + 1) y0 y1 y2 y3 y4 y5 y6 y7 y8)) ∧ (∀ y0 y1 y2 y3 y4 y5, LeO (impl_Env_leq.l1 k y0 y1 y2 y3 y4 y5) (impl_Env_leq.l1 (k + 1) y0 y1 y2 y3 y4 y5))
 | 0 => ⟨fun _ _ _ _ _ _ _ _ _ r h => by simp [impl_Env_leq.l0] at h, fun _ _ _ _ _ _ r h => by simp [impl_Env_leq.l1] at h⟩
 | k + 1 => by
  obtain ⟨ih0, ih1⟩ := impl_Env_leq.mono_l k
  refine ⟨?_, ?_⟩
  ·intro y0 y1 y2 y3 y4 y5 y6 y7 y8
   unfold impl_Env_leq.l0
   repeat' first
   | (with_reducible exact ih0 _ _ _ _ _ _ _ _ _)
   | (with_reducible exact ih1 _ _ _ _ _ _)
   | (with_reducible exact LeO.refl _)
   | (with_reducible exact LeO.none _)
   | (with_reducible refine LeO.ite ?_ ?_)
   | (with_reducible refine LeO.bind ?_ (fun _ => ?_))
   | exact ih0 _ _ _ _ _ _ _ _ _
   | exact ih1 _ _ _ _ _ _
   | exact LeO.none _
   | refine LeO.ite ?_ ?_
   | refine LeO.bind ?_ (fun _ => ?_)
  ·intro y0 y1 y2 y3 y4 y5
   unfold impl_Env_leq.l1
   repeat' first
   | (with_reducible exact ih0 _ _ _ _ _ _ _ _ _)
   | (with_reducible exact ih1 _ _ _ _ _ _)
   | (with_reducible exact LeO.refl _)
   | (with_reducible exact LeO.none _)
   | (with_reducible refine LeO.ite ?_ ?_)
   | (with_reducible refine LeO.bind ?_ (fun _ => ?_))
   | exact ih0 _ _ _ _ _ _ _ _ _
   | exact ih1 _ _ _ _ _ _
   | exact LeO.none _
   | refine LeO.ite ?_ ?_
   | refine LeO.bind ?_ (fun _ => ?_)
theorem impl_Env_leq.mono : ∀ a0 a1 a2 a3 a4 a5 k, LeO (impl_Env_leq.f k a0 a1 a2 a3 a4 a5) (impl_Env_leq.f (k + 1) a0 a1 a2 a3 a4 a5) := by
 intro a0 a1 a2 a3 a4 a5 k
 obtain ⟨ih0, ih1⟩ := impl_Env_leq.mono_l k
 unfold impl_Env_leq.f
 repeat' first
   | (with_reducible exact ih0 _ _ _ _ _ _ _ _ _)
   | (with_reducible exact ih1 _ _ _ _ _ _)
   | (with_reducible exact LeO.refl _)
   | (with_reducible exact LeO.none _)
   | (with_reducible refine LeO.ite ?_ ?_)
   | (with_reducible refine LeO.bind ?_ (fun _ => ?_))
   | exact ih0 _ _ _ _ _ _ _ _ _
   | exact ih1 _ _ _ _ _ _
   | exact LeO.none _
   | refine LeO.ite ?_ ?_
   | refine LeO.bind ?_ (fun _ => ?_)
def impl_Env_leq.T8 : Bool × List (List Nat × List Nat) := (true, [([], []), ([], []), ([1], [1]), ([], []), ([2, 3], [2, 3]), ([4], [4]), ([0, 5], [0, 5]), ([6], [6])])
def impl_Env_leq.B8 : List Nat := [0, 0, 2, 0, 14, 30, 63, 127]
theorem impl_Env_leq.tab8 : rtab .any (opsOf Tryd.f79 8) = impl_Env_leq.T8 := by kernel_rfl
theorem impl_Env_leq.bits8 : waitsOk impl_Env_leq.T8.2 impl_Env_leq.B8 = true := by kernel_rfl
def impl_Env_leq.T14 : Bool × List (List Nat × List Nat) := (true, [([], []), ([], []), ([1], [1]), ([], []), ([2, 3], [2, 3]), ([4], [4]), ([0, 5], [0, 5]), ([6], [6])])
def impl_Env_leq.B14 : List Nat := [0, 0, 2, 0, 14, 30, 63, 127]
theorem impl_Env_leq.tab14 : rtab .any (opsOf Tryd.f79 14) = impl_Env_leq.T14 := by kernel_rfl
theorem impl_Env_leq.bits14 : waitsOk impl_Env_leq.T14.2 impl_Env_leq.B14 = true := by kernel_rfl
set_option maxHeartbeats 8000000 in
set_option maxRecDepth 100000 in
theorem impl_Env_leq.calls (k : Nat) (a0_0 : Bool) (A0_1 : Option Addr) (c0_1 : Nat) (l0_1 : List (S78)) (A0_2 : Option Addr) (c0_2 : Nat) (l0_2 : List (S78)) (a1_0 : Bool) (A1_1 : Option Addr) (c1_1 : Nat) (l1_1 : List (S78)) (A1_2 : Option Addr) (c1_2 : Nat) (l1_2 : List (S78)) (r : Bool) (w : World) (hr0_1 : Kd.C k78 w A0_1 l0_1.length l0_1) (hc0_1 : l0_1.length ≤ c0_1) (hr0_2 : Kd.C k78 w A0_2 l0_2.length l0_2) (hc0_2 : l0_2.length ≤ c0_2) (hr1_1 : Kd.C k78 w A1_1 l1_1.length l1_1) (hc1_1 : l1_1.length ≤ c1_1) (hr1_2 : Kd.C k78 w A1_2 l1_2.length l1_2) (hc1_2 : l1_2.length ≤ c1_2) (h : impl_Env_leq.f k a0_0 l0_1 l0_2 a1_0 l1_1 l1_2 = some r) :
  Calls Tryd.prog 79 #[.agg #[.bool a0_0, .slice A0_1 l0_1.length c0_1, .slice A0_2 l0_2.length c0_2], .agg #[.bool a1_0, .slice A1_1 l1_1.length c1_1, .slice A1_2 l1_2.length c1_2]] w fun e w' => e = .returned (.bool r) ∧ Below w.heap.size w w' := by
 have hu41 := Tryd.underlying41
 have hu78 := Tryd.underlying78
 have HR0_1 := Aside0.mk hr0_1
 have HC0_1 := Aside0.mk hc0_1
 clear hr0_1 hc0_1
 have HR0_2 := Aside0.mk hr0_2
 have HC0_2 := Aside0.mk hc0_2
 clear hr0_2 hc0_2
 have HR1_1 := Aside0.mk hr1_1
 have HC1_1 := Aside0.mk hc1_1
 clear hr1_1 hc1_1
 have HR1_2 := Aside0.mk hr1_2
 have HC1_2 := Aside0.mk hc1_2
 clear hr1_2 hc1_2
 have HB := Aside0.mk (Below.refl w.heap.size w)
 have H : (if a0_0 = true then (if a1_0 = true then (impl_Env_leq.l0 k l0_1 (l0_1.length : Int) 0 a0_0 l0_1 l0_2 a1_0 l1_1 l1_2) else (some false)) else (some true)) = some r := h
 clear h
 by_cases c3 : a0_0 = true
 ·subst c3
  have H1 : (if a1_0 = true then (impl_Env_leq.l0 k l0_1 (l0_1.length : Int) 0 true l0_1 l0_2 a1_0 l1_1 l1_2) else (some false)) = some r := by rw [if_pos rfl] at H; exact H
  clear H
  have H := H1
  clear H1
  by_cases c4 : a1_0 = true
  ·subst c4
   have H1 : (impl_Env_leq.l0 k l0_1 (l0_1.length : Int) 0 true l0_1 l0_2 true l1_1 l1_2) = some r := by rw [if_pos rfl] at H; exact H
   clear H
   have H := H1
   clear H1
   have H' := Aside0.mk H
   clear H
   go_enter Tryd.func79, Tryd.ntmps79
   go_wp2_with (first | ((with_reducible refine gate_dst (N := 2) rfl ?_); refine box_event rfl rfl (cs := #[.bool true, .slice A0_1 l0_1.length c0_1, .slice A0_2 l0_2.length c0_2]) (t := 41) (by first | (go_simp; done) | (go_simp; rfl)) ?_; intro gb493 hg w5 hbox hb; have BK493 := Aside0.mk (hbox); have GW493 := bz HB hg; have GE493 := bz HB hg; replace HB := bs HB hb; clear hb hbox hg) | ((with_reducible refine gate_dst (N := 3) rfl ?_); refine box_event rfl rfl (cs := #[.bool true, .slice A1_1 l1_1.length c1_1, .slice A1_2 l1_2.length c1_2]) (t := 41) (by first | (go_simp; done) | (go_simp; rfl)) ?_; intro gb494 hg w6 hbox hb; have BK494 := Aside0.mk (hbox); have GW494 := bz HB hg; have GE494 := bz HB hg; replace HB := bs HB hb; have NB493_494 := bl BK493 hg; have NB494_493 := bg BK493 hg; replace BK493 := bb BK493 hb; clear hb hbox hg; have hnb7 := NB493_494.out; have hnc7 := NB494_493.out; have hcz8_0 : w6.cell? ⟨gb493, 0, none⟩ = some (.bool true) := (blk_cell BK493.out 0).trans rfl; have hcz8_1 : w6.cell? ⟨gb493, 1, none⟩ = some (.slice A0_1 l0_1.length c0_1) := (blk_cell BK493.out 1).trans rfl; have hcz8_2 : w6.cell? ⟨gb493, 2, none⟩ = some (.slice A0_2 l0_2.length c0_2) := (blk_cell BK493.out 2).trans rfl; have hfz8_0 := blk_frozen BK493.out 0; have hfz8_1 := blk_frozen BK493.out 1; have hfz8_2 := blk_frozen BK493.out 2; have hcz9_0 : w6.cell? ⟨gb494, 0, none⟩ = some (.bool true) := (blk_cell BK494.out 0).trans rfl; have hcz9_1 : w6.cell? ⟨gb494, 1, none⟩ = some (.slice A1_1 l1_1.length c1_1) := (blk_cell BK494.out 1).trans rfl; have hcz9_2 : w6.cell? ⟨gb494, 2, none⟩ = some (.slice A1_2 l1_2.length c1_2) := (blk_cell BK494.out 2).trans rfl; have hfz9_0 := blk_frozen BK494.out 0; have hfz9_1 := blk_frozen BK494.out 1; have hfz9_2 := blk_frozen BK494.out 2))
   go_loopg [20] k (fun kq v20 w' => ∃ (x20_1 : Int), v20 = .int .i64 x20_1 ∧ Aside0 (impl_Env_leq.l0 kq l0_1 (l0_1.length : Int) x20_1 true l0_1 l0_2 true l1_1 l1_2 = some r) ∧ Aside0 (kq ≤ k) ∧ Aside0 (w'.heap[gb493]? = some (.cells #[.bool true, (.slice A0_1 l0_1.length c0_1), (.slice A0_2 l0_2.length c0_2)] 41 (0, 0))) ∧ Aside0 (w'.heap[gb494]? = some (.cells #[.bool true, (.slice A1_1 l1_1.length c1_1), (.slice A1_2 l1_2.length c1_2)] 41 (0, 0))) ∧ Aside0 (Below w.heap.size w w'))
   case atStart => exact ⟨(0), (by first | rfl | (simp; done) | (simp [*]; done)), H', ⟨Nat.le_refl _⟩, ⟨bx BK493⟩, ⟨bx BK494⟩, ⟨bw HB⟩⟩
   case round =>
    clear H'
    try clear c1
    try clear p2
    try clear c3
    try clear c4
    try clear c7
    try clear hcz8_0
    try clear hcz8_1
    try clear hcz8_2
    try clear hcz9_0
    try clear hcz9_1
    try clear hcz9_2
    try clear hfz8_0
    try clear hfz8_1
    try clear hfz8_2
    try clear hfz9_0
    try clear hfz9_1
    try clear hfz9_2
    obtain ⟨x20_1, rfl, HA, HK1, BK493, BK494, HB⟩ := hrel
    cases gk with
    | zero => exact absurd HA.out (by simp [impl_Env_leq.l0])
    | succ k1 =>
     have H := HA.out
     clear HA
     simp only [impl_Env_leq.l0] at H
     by_cases c10 : x20_1 < (l0_1.length : Int)
     ·rw [if_pos c10] at H
      have c10b0 : decide (x20_1 < (l0_1.length : Int)) = true := decide_eq_true c10
      clear c10
      by_cases c11 : 0 ≤ x20_1
      ·rw [if_pos c11] at H
       have c11b0 : decide (0 ≤ x20_1) = true := decide_eq_true c11
       clear c11
       by_cases c12 : x20_1 < (l0_1.length : Int)
       ·rw [if_pos c12] at H
        have c12b0 : decide (x20_1 < (l0_1.length : Int)) = true := decide_eq_true c12
        clear c12
        by_cases c13 : x20_1 < (l1_1.length : Int)
        ·rw [if_pos c13] at H
         have c13b0 : decide (x20_1 < (l1_1.length : Int)) = true := decide_eq_true c13
         clear c13
         replace H := Option.bind_eq_some_iff.mp H
         obtain ⟨t498, A140, H⟩ := H
         replace H : (if t498 = true then (impl_Env_leq.l0 k1 l0_1 (l0_1.length : Int) (wrap64 (x20_1 + 1)) true l0_1 l0_2 true l1_1 l1_2) else (some false)) = some r := H
         have A14 := Aside0.mk A140
         clear A140
         by_cases c15 : t498 = true
         ·subst c15
          have H1 : (impl_Env_leq.l0 k1 l0_1 (l0_1.length : Int) (wrap64 (x20_1 + 1)) true l0_1 l0_2 true l1_1 l1_2) = some r := by rw [if_pos rfl] at H; exact H
          clear H
          have H := H1
          clear H1
          have H' := Aside0.mk H
          clear H
          have p495 : 0 ≤ (x20_1 : Int) := of_decide_eq_true (by first | (with_reducible assumption) | assumption)
          have q495 : x20_1 < (l0_1.length : Int) := of_decide_eq_true (by first | (with_reducible assumption) | assumption)
          obtain ⟨ad495, e495, hx495_0, hx495_1⟩ := at_T78 HR0_1.out x20_1 p495 q495
          cases e495
          replace hx495_0 := (HB.out.cell (World.block_lt_of_cell? w _ hx495_0)).trans hx495_0
          replace hx495_1 := (HB.out.cell (World.block_lt_of_cell? w _ hx495_1)).trans hx495_1
          replace p495 := eq_true p495
          replace q495 := eq_true q495
          try go_wp2_with (((with_reducible refine gate_dst (N := 6) rfl ?_); refine box_event rfl rfl (cs := #[.int .i64 0, .int .i64 0]) (t := 78) (by first | (go_simp; done) | (go_simp; rfl)) ?_; intro gb496 hg w16 hbox hb; have BK496 := Aside0.mk (hbox); have GW496 := bz HB hg; have GE496 := bz HB hg; replace HB := bs HB hb; have NB493_496 := bl BK493 hg; have NB496_493 := bg BK493 hg; replace BK493 := bb BK493 hb; have NB494_496 := bl BK494 hg; have NB496_494 := bg BK494 hg; replace BK494 := bb BK494 hb; clear hb hbox hg; have hnb17 := NB496_493.out; have hnc17 := NB493_496.out; have hnb18 := NB496_494.out; have hnc18 := NB494_496.out; have hcz19_0 : w16.cell? ⟨gb496, 0, none⟩ = some (.int .i64 0) := (blk_cell BK496.out 0).trans rfl; have hcz19_1 : w16.cell? ⟨gb496, 1, none⟩ = some (.int .i64 0) := (blk_cell BK496.out 1).trans rfl; have hfz19_0 := blk_frozen BK496.out 0; have hfz19_1 := blk_frozen BK496.out 1))
          have n0_ : Aside0 (((w16.setCell ⟨gb496, 0, none⟩ (.int .i64 ((rd_T78 l0_1 x20_1).f0))).setCell ⟨gb496, 1, none⟩ (.int .i64 ((rd_T78 l0_1 x20_1).f1))).heap[gb493]? = some (.cells #[.bool true, .slice (some ad495) l0_1.length c0_1, .slice A0_2 l0_2.length c0_2] 41 (0, 0))) := ⟨bx BK493⟩
          have n1_ : Aside0 (((w16.setCell ⟨gb496, 0, none⟩ (.int .i64 ((rd_T78 l0_1 x20_1).f0))).setCell ⟨gb496, 1, none⟩ (.int .i64 ((rd_T78 l0_1 x20_1).f1))).heap[gb494]? = some (.cells #[.bool true, .slice A1_1 l1_1.length c1_1, .slice A1_2 l1_2.length c1_2] 41 (0, 0))) := ⟨bx BK494⟩
          have n2_ : Aside0 (((w16.setCell ⟨gb496, 0, none⟩ (.int .i64 ((rd_T78 l0_1 x20_1).f0))).setCell ⟨gb496, 1, none⟩ (.int .i64 ((rd_T78 l0_1 x20_1).f1))).heap[gb496]? = some (.cells #[.int .i64 ((rd_T78 l0_1 x20_1).f0), .int .i64 ((rd_T78 l0_1 x20_1).f1)] 78 (0, 0))) := ⟨by (with_reducible repeat (first | refine blk_drewN ?_ _ | refine blk_drew ?_ | refine blk_alloc ?_ _)); refine blk_put (cs := #[.int .i64 ((rd_T78 l0_1 x20_1).f0), .int .i64 0]) ?_ 1 _ rfl; (with_reducible repeat (first | refine blk_drewN ?_ _ | refine blk_drew ?_ | refine blk_alloc ?_ _)); refine blk_put (cs := #[.int .i64 0, .int .i64 0]) ?_ 0 _ rfl; (with_reducible repeat (first | refine blk_drewN ?_ _ | refine blk_drew ?_ | refine blk_alloc ?_ _)); exact BK496.out⟩
          have n3_ : Aside0 (Below w.heap.size w ((w16.setCell ⟨gb496, 0, none⟩ (.int .i64 ((rd_T78 l0_1 x20_1).f0))).setCell ⟨gb496, 1, none⟩ (.int .i64 ((rd_T78 l0_1 x20_1).f1)))) := ⟨bw HB⟩
          (try clear BK493)
          (try clear BK494)
          (try clear BK496)
          (try clear HB)
          generalize ((w16.setCell ⟨gb496, 0, none⟩ (.int .i64 ((rd_T78 l0_1 x20_1).f0))).setCell ⟨gb496, 1, none⟩ (.int .i64 ((rd_T78 l0_1 x20_1).f1))) = w20 at n0_ n1_ n2_ n3_ ⊢
          have BK493 := n0_
          have BK494 := n1_
          have BK496 := n2_
          have HB := n3_
          clear n0_ n1_ n2_ n3_
          have n0_ := Aside0.mk (blk_drew BK493.out)
          have n1_ := Aside0.mk (blk_drew BK494.out)
          have n2_ := Aside0.mk (blk_drew BK496.out)
          have n3_ := Aside0.mk (below_drew1 HB.out)
          clear BK493
          clear BK494
          clear BK496
          clear HB
          have BK493 := n0_
          have BK494 := n1_
          have BK496 := n2_
          have HB := n3_
          clear n0_ n1_ n2_ n3_
          have p497 : 0 ≤ (x20_1 : Int) := of_decide_eq_true (by first | (with_reducible assumption) | assumption)
          have q497 : x20_1 < (l1_1.length : Int) := of_decide_eq_true (by first | (with_reducible assumption) | assumption)
          obtain ⟨ad497, e497, hx497_0, hx497_1⟩ := at_T78 HR1_1.out x20_1 p497 q497
          have hw497_1 := hx497_1
          have hw497_0 := hx497_0
          cases e497
          replace hx497_0 := (HB.out.cell (World.block_lt_of_cell? w _ hx497_0)).trans hx497_0
          replace hx497_1 := (HB.out.cell (World.block_lt_of_cell? w _ hx497_1)).trans hx497_1
          replace p497 := eq_true p497
          replace q497 := eq_true q497
          refine start_ (n := 8) (S := fun w' => w'.cell? ⟨gb496, 0, none⟩ = some (.int .i64 ((rd_T78 l0_1 x20_1).f0)) ∧ w'.cell? ⟨gb496, 1, none⟩ = some (.int .i64 ((rd_T78 l0_1 x20_1).f1)) ∧ w'.cell? ⟨gb494, 0, none⟩ = some (.bool true) ∧ w'.cell? ⟨gb494, 1, none⟩ = some (.slice (some ad497) l1_1.length c1_1) ∧ w'.cell? ⟨gb494, 2, none⟩ = some (.slice A1_2 l1_2.length c1_2) ∧ w'.cell? (ad497.add ((x20_1).toNat * 2)) = some (.int .i64 ((rd_T78 l1_1 x20_1).f0)) ∧ w'.cell? ⟨(ad497.add ((x20_1).toNat * 2)).block, (ad497.add ((x20_1).toNat * 2)).off + 1, none⟩ = some (.int .i64 ((rd_T78 l1_1 x20_1).f1))) (ds := []) #[false, false, false, false, false, false, false, false] (by kernel_rfl) rfl rfl ⟨(blk_cell BK496.out 0).trans rfl, (blk_cell BK496.out 1).trans rfl, (blk_cell BK494.out 0).trans rfl, (blk_cell BK494.out 1).trans rfl, (blk_cell BK494.out 2).trans rfl, ((HB.out.cell (World.block_lt_of_cell? w _ hw497_0)).trans hw497_0), ((HB.out.cell (World.block_lt_of_cell? w _ hw497_1)).trans hw497_1)⟩ (fun hHeld => ?_); refine with_tabW impl_Env_leq.tab8 impl_Env_leq.bits8 (fun HT_ HW_ => ?_)
          generalize w20.drew = w21 at BK493 BK494 BK496 HB hx497_0 hx497_1 hHeld ⊢
          refine pure_ (i := 1) (N := some 26) (v := ?_) (a' := ?_) #[false, true, false, false, false, false, false, false] rfl rfl (any_of HT_.out (by kernel_rfl)) (fun _ _ _ h => h) (Or.inl ⟨by rfl, ?_⟩) ?_ ?_
          rotate_left
          ·intro w'
           go_simp
           with_reducible rfl
          rotate_left
          ·simp only [Act.put, List.setIfInBounds_toArray, List.set_cons_zero, List.set_cons_succ, i64_w, i32_w]
           rfl
          refine pure_ (i := 3) (N := some 28) (v := ?_) (a' := ?_) #[false, true, false, true, false, false, false, false] rfl rfl (any_of HT_.out (by kernel_rfl)) (fun _ _ _ h => h) (Or.inl ⟨by rfl, ?_⟩) ?_ ?_
          rotate_left
          ·intro w'
           go_simp
           with_reducible rfl
          rotate_left
          ·simp only [Act.put, List.setIfInBounds_toArray, List.set_cons_zero, List.set_cons_succ, i64_w, i32_w]
           rfl
          refine take_ (i := 0) (N := some 25) (v := ?_) (a' := ?_) #[true, true, false, true, false, false, false, false] rfl rfl (take_ofW HT_.out HW_.out (by kernel_rfl)) (fun _ _ _ h => h) (Or.inl ⟨by rfl, ?_⟩) hHeld ?_ ?_
          rotate_left
          ·rintro w' ⟨s0, s1, s2, s3, s4, s5, s6⟩
           go_simp
           with_reducible rfl
          rotate_left
          ·simp only [Act.put, List.setIfInBounds_toArray, List.set_cons_zero, List.set_cons_succ, i64_w, i32_w]
           rfl
          refine take_ (i := 2) (N := some 27) (v := ?_) (a' := ?_) #[true, true, true, true, false, false, false, false] rfl rfl (take_ofW HT_.out HW_.out (by kernel_rfl)) (fun _ _ _ h => h) (Or.inl ⟨by rfl, ?_⟩) hHeld ?_ ?_
          rotate_left
          ·rintro w' ⟨s0, s1, s2, s3, s4, s5, s6⟩
           go_simp
           with_reducible rfl
          rotate_left
          ·simp only [Act.put, List.setIfInBounds_toArray, List.set_cons_zero, List.set_cons_succ, i64_w, i32_w]
           rfl
          refine pure_ (i := 4) (N := some 29) (v := ?_) (a' := ?_) #[true, true, true, true, true, false, false, false] rfl rfl (any_of HT_.out (by kernel_rfl)) (fun _ _ _ h => h) (Or.inl ⟨by rfl, ?_⟩) ?_ ?_
          rotate_left
          ·intro w'
           go_simp
           with_reducible rfl
          rotate_left
          ·simp only [Act.put, List.setIfInBounds_toArray, List.set_cons_zero, List.set_cons_succ, i64_w, i32_w]
           rfl
          refine take_ (i := 5) (N := some 30) (v := ?_) (a' := ?_) #[true, true, true, true, true, true, false, false] rfl rfl (take_ofW HT_.out HW_.out (by kernel_rfl)) (fun _ _ _ h => h) (Or.inl ⟨by rfl, ?_⟩) hHeld ?_ ?_
          rotate_left
          ·rintro w' ⟨s0, s1, s2, s3, s4, s5, s6⟩
           go_simp
           with_reducible rfl
          rotate_left
          ·simp only [Act.put, List.setIfInBounds_toArray, List.set_cons_zero, List.set_cons_succ, i64_w, i32_w]
           rfl
          refine one_ (i := 6) (N := some 31) #[true, true, true, true, true, true, true, false] rfl rfl (one_of HT_.out (by kernel_rfl)) (by decide) (fun K hK => ?_)
          refine goes_ Tryd.func126 (by kernel_rfl) rfl #[.agg #[.int .i64 ((rd_T78 l0_1 x20_1).f0), .int .i64 ((rd_T78 l0_1 x20_1).f1)], .agg #[.int .i64 ((rd_T78 l1_1 x20_1).f0), .int .i64 ((rd_T78 l1_1 x20_1).f1)]] (by rfl) rfl rfl (by (try simp only [List.map_toArray, List.map_cons, List.map_nil]); first | done | rfl | (simp only [List.length_drop, List.length_take]; rfl)) ?_
          with_reducible refine (impl_IvLeq.calls ((rd_T78 l0_1 x20_1).f0) ((rd_T78 l0_1 x20_1).f1) ((rd_T78 l1_1 x20_1).f0) ((rd_T78 l1_1 x20_1).f1) true _ A14.out).mono ?_
          rintro e w22 ⟨rfl, hb⟩
          refine ⟨_, rfl, ?_⟩
          have n0_ := bb BK493 hb
          have n1_ := bb BK494 hb
          have n2_ := bb BK496 hb
          have n3_ := bs HB hb
          clear BK493
          clear BK494
          clear BK496
          clear HB
          have BK493 := n0_
          have BK494 := n1_
          have BK496 := n2_
          have HB := n3_
          clear n0_ n1_ n2_ n3_
          (try clear hb)
          (try clear hb2)
          (try clear hk)
          (try clear hi)
          refine hK.out _ _ ⟨(blk_cell BK496.out 0).trans rfl, (blk_cell BK496.out 1).trans rfl, (blk_cell BK494.out 0).trans rfl, (blk_cell BK494.out 1).trans rfl, (blk_cell BK494.out 2).trans rfl, ((HB.out.cell (World.block_lt_of_cell? w _ hw497_0)).trans hw497_0), ((HB.out.cell (World.block_lt_of_cell? w _ hw497_1)).trans hw497_1)⟩ (fun hHeld => ?_)
          clear hK K
          refine norm_ (a' := ?_) ?_ ?_
          rotate_left
          ·show Act.put _ (some 31) _ = _
           simp only [Act.put, List.setIfInBounds_toArray, List.set_cons_zero, List.set_cons_succ, i64_w, i32_w]
           rfl
          refine pure_ (i := 7) (N := some 32) (v := ?_) (a' := ?_) #[true, true, true, true, true, true, true, true] rfl rfl (any_of HT_.out (by kernel_rfl)) (fun _ _ _ h => h) (Or.inl ⟨by rfl, ?_⟩) ?_ ?_
          rotate_left
          ·intro w'
           go_simp
           with_reducible rfl
          rotate_left
          ·simp only [Act.put, List.setIfInBounds_toArray, List.set_cons_zero, List.set_cons_succ, i64_w, i32_w]
           rfl
          refine done_ (done_of HT_.out (by kernel_rfl)) ?_
          try go_wp2
          go_roundg k1
          case measure => have := HK1.out; omega
          case rel => exact ⟨(wrap64 (x20_1 + 1)), (by first | rfl | (simp; done) | (simp [*]; done)), H', ⟨by have := HK1.out; omega⟩, ⟨bx BK493⟩, ⟨bx BK494⟩, ⟨bw HB⟩⟩
         ·replace c15 := Bool.eq_false_iff.mpr c15
          subst c15
          have H1 : (some false) = some r := by rw [if_neg (show ¬ (false = true) by decide)] at H; exact H
          clear H
          have H := H1
          clear H1
          obtain rfl := Option.some.inj H
          have p495 : 0 ≤ (x20_1 : Int) := of_decide_eq_true (by first | (with_reducible assumption) | assumption)
          have q495 : x20_1 < (l0_1.length : Int) := of_decide_eq_true (by first | (with_reducible assumption) | assumption)
          obtain ⟨ad495, e495, hx495_0, hx495_1⟩ := at_T78 HR0_1.out x20_1 p495 q495
          cases e495
          replace hx495_0 := (HB.out.cell (World.block_lt_of_cell? w _ hx495_0)).trans hx495_0
          replace hx495_1 := (HB.out.cell (World.block_lt_of_cell? w _ hx495_1)).trans hx495_1
          replace p495 := eq_true p495
          replace q495 := eq_true q495
          try go_wp2_with (((with_reducible refine gate_dst (N := 6) rfl ?_); refine box_event rfl rfl (cs := #[.int .i64 0, .int .i64 0]) (t := 78) (by first | (go_simp; done) | (go_simp; rfl)) ?_; intro gb496 hg w23 hbox hb; have BK496 := Aside0.mk (hbox); have GW496 := bz HB hg; have GE496 := bz HB hg; replace HB := bs HB hb; have NB493_496 := bl BK493 hg; have NB496_493 := bg BK493 hg; replace BK493 := bb BK493 hb; have NB494_496 := bl BK494 hg; have NB496_494 := bg BK494 hg; replace BK494 := bb BK494 hb; clear hb hbox hg; have hnb24 := NB496_493.out; have hnc24 := NB493_496.out; have hnb25 := NB496_494.out; have hnc25 := NB494_496.out; have hcz26_0 : w23.cell? ⟨gb496, 0, none⟩ = some (.int .i64 0) := (blk_cell BK496.out 0).trans rfl; have hcz26_1 : w23.cell? ⟨gb496, 1, none⟩ = some (.int .i64 0) := (blk_cell BK496.out 1).trans rfl; have hfz26_0 := blk_frozen BK496.out 0; have hfz26_1 := blk_frozen BK496.out 1))
          have n0_ : Aside0 (((w23.setCell ⟨gb496, 0, none⟩ (.int .i64 ((rd_T78 l0_1 x20_1).f0))).setCell ⟨gb496, 1, none⟩ (.int .i64 ((rd_T78 l0_1 x20_1).f1))).heap[gb493]? = some (.cells #[.bool true, .slice (some ad495) l0_1.length c0_1, .slice A0_2 l0_2.length c0_2] 41 (0, 0))) := ⟨bx BK493⟩
          have n1_ : Aside0 (((w23.setCell ⟨gb496, 0, none⟩ (.int .i64 ((rd_T78 l0_1 x20_1).f0))).setCell ⟨gb496, 1, none⟩ (.int .i64 ((rd_T78 l0_1 x20_1).f1))).heap[gb494]? = some (.cells #[.bool true, .slice A1_1 l1_1.length c1_1, .slice A1_2 l1_2.length c1_2] 41 (0, 0))) := ⟨bx BK494⟩
          have n2_ : Aside0 (((w23.setCell ⟨gb496, 0, none⟩ (.int .i64 ((rd_T78 l0_1 x20_1).f0))).setCell ⟨gb496, 1, none⟩ (.int .i64 ((rd_T78 l0_1 x20_1).f1))).heap[gb496]? = some (.cells #[.int .i64 ((rd_T78 l0_1 x20_1).f0), .int .i64 ((rd_T78 l0_1 x20_1).f1)] 78 (0, 0))) := ⟨by (with_reducible repeat (first | refine blk_drewN ?_ _ | refine blk_drew ?_ | refine blk_alloc ?_ _)); refine blk_put (cs := #[.int .i64 ((rd_T78 l0_1 x20_1).f0), .int .i64 0]) ?_ 1 _ rfl; (with_reducible repeat (first | refine blk_drewN ?_ _ | refine blk_drew ?_ | refine blk_alloc ?_ _)); refine blk_put (cs := #[.int .i64 0, .int .i64 0]) ?_ 0 _ rfl; (with_reducible repeat (first | refine blk_drewN ?_ _ | refine blk_drew ?_ | refine blk_alloc ?_ _)); exact BK496.out⟩
          have n3_ : Aside0 (Below w.heap.size w ((w23.setCell ⟨gb496, 0, none⟩ (.int .i64 ((rd_T78 l0_1 x20_1).f0))).setCell ⟨gb496, 1, none⟩ (.int .i64 ((rd_T78 l0_1 x20_1).f1)))) := ⟨bw HB⟩
          (try clear BK493)
          (try clear BK494)
          (try clear BK496)
          (try clear HB)
          generalize ((w23.setCell ⟨gb496, 0, none⟩ (.int .i64 ((rd_T78 l0_1 x20_1).f0))).setCell ⟨gb496, 1, none⟩ (.int .i64 ((rd_T78 l0_1 x20_1).f1))) = w27 at n0_ n1_ n2_ n3_ ⊢
          have BK493 := n0_
          have BK494 := n1_
          have BK496 := n2_
          have HB := n3_
          clear n0_ n1_ n2_ n3_
          have n0_ := Aside0.mk (blk_drew BK493.out)
          have n1_ := Aside0.mk (blk_drew BK494.out)
          have n2_ := Aside0.mk (blk_drew BK496.out)
          have n3_ := Aside0.mk (below_drew1 HB.out)
          clear BK493
          clear BK494
          clear BK496
          clear HB
          have BK493 := n0_
          have BK494 := n1_
          have BK496 := n2_
          have HB := n3_
          clear n0_ n1_ n2_ n3_
          have p497 : 0 ≤ (x20_1 : Int) := of_decide_eq_true (by first | (with_reducible assumption) | assumption)
          have q497 : x20_1 < (l1_1.length : Int) := of_decide_eq_true (by first | (with_reducible assumption) | assumption)
          obtain ⟨ad497, e497, hx497_0, hx497_1⟩ := at_T78 HR1_1.out x20_1 p497 q497
          have hw497_1 := hx497_1
          have hw497_0 := hx497_0
          cases e497
          replace hx497_0 := (HB.out.cell (World.block_lt_of_cell? w _ hx497_0)).trans hx497_0
          replace hx497_1 := (HB.out.cell (World.block_lt_of_cell? w _ hx497_1)).trans hx497_1
          replace p497 := eq_true p497
          replace q497 := eq_true q497
          refine start_ (n := 8) (S := fun w' => w'.cell? ⟨gb496, 0, none⟩ = some (.int .i64 ((rd_T78 l0_1 x20_1).f0)) ∧ w'.cell? ⟨gb496, 1, none⟩ = some (.int .i64 ((rd_T78 l0_1 x20_1).f1)) ∧ w'.cell? ⟨gb494, 0, none⟩ = some (.bool true) ∧ w'.cell? ⟨gb494, 1, none⟩ = some (.slice (some ad497) l1_1.length c1_1) ∧ w'.cell? ⟨gb494, 2, none⟩ = some (.slice A1_2 l1_2.length c1_2) ∧ w'.cell? (ad497.add ((x20_1).toNat * 2)) = some (.int .i64 ((rd_T78 l1_1 x20_1).f0)) ∧ w'.cell? ⟨(ad497.add ((x20_1).toNat * 2)).block, (ad497.add ((x20_1).toNat * 2)).off + 1, none⟩ = some (.int .i64 ((rd_T78 l1_1 x20_1).f1))) (ds := []) #[false, false, false, false, false, false, false, false] (by kernel_rfl) rfl rfl ⟨(blk_cell BK496.out 0).trans rfl, (blk_cell BK496.out 1).trans rfl, (blk_cell BK494.out 0).trans rfl, (blk_cell BK494.out 1).trans rfl, (blk_cell BK494.out 2).trans rfl, ((HB.out.cell (World.block_lt_of_cell? w _ hw497_0)).trans hw497_0), ((HB.out.cell (World.block_lt_of_cell? w _ hw497_1)).trans hw497_1)⟩ (fun hHeld => ?_); refine with_tabW impl_Env_leq.tab8 impl_Env_leq.bits8 (fun HT_ HW_ => ?_)
          generalize w27.drew = w28 at BK493 BK494 BK496 HB hx497_0 hx497_1 hHeld ⊢
          refine pure_ (i := 1) (N := some 26) (v := ?_) (a' := ?_) #[false, true, false, false, false, false, false, false] rfl rfl (any_of HT_.out (by kernel_rfl)) (fun _ _ _ h => h) (Or.inl ⟨by rfl, ?_⟩) ?_ ?_
          rotate_left
          ·intro w'
           go_simp
           with_reducible rfl
          rotate_left
          ·simp only [Act.put, List.setIfInBounds_toArray, List.set_cons_zero, List.set_cons_succ, i64_w, i32_w]
           rfl
          refine pure_ (i := 3) (N := some 28) (v := ?_) (a' := ?_) #[false, true, false, true, false, false, false, false] rfl rfl (any_of HT_.out (by kernel_rfl)) (fun _ _ _ h => h) (Or.inl ⟨by rfl, ?_⟩) ?_ ?_
          rotate_left
          ·intro w'
           go_simp
           with_reducible rfl
          rotate_left
          ·simp only [Act.put, List.setIfInBounds_toArray, List.set_cons_zero, List.set_cons_succ, i64_w, i32_w]
           rfl
          refine take_ (i := 0) (N := some 25) (v := ?_) (a' := ?_) #[true, true, false, true, false, false, false, false] rfl rfl (take_ofW HT_.out HW_.out (by kernel_rfl)) (fun _ _ _ h => h) (Or.inl ⟨by rfl, ?_⟩) hHeld ?_ ?_
          rotate_left
          ·rintro w' ⟨s0, s1, s2, s3, s4, s5, s6⟩
           go_simp
           with_reducible rfl
          rotate_left
          ·simp only [Act.put, List.setIfInBounds_toArray, List.set_cons_zero, List.set_cons_succ, i64_w, i32_w]
           rfl
          refine take_ (i := 2) (N := some 27) (v := ?_) (a' := ?_) #[true, true, true, true, false, false, false, false] rfl rfl (take_ofW HT_.out HW_.out (by kernel_rfl)) (fun _ _ _ h => h) (Or.inl ⟨by rfl, ?_⟩) hHeld ?_ ?_
          rotate_left
          ·rintro w' ⟨s0, s1, s2, s3, s4, s5, s6⟩
           go_simp
           with_reducible rfl
          rotate_left
          ·simp only [Act.put, List.setIfInBounds_toArray, List.set_cons_zero, List.set_cons_succ, i64_w, i32_w]
           rfl
          refine pure_ (i := 4) (N := some 29) (v := ?_) (a' := ?_) #[true, true, true, true, true, false, false, false] rfl rfl (any_of HT_.out (by kernel_rfl)) (fun _ _ _ h => h) (Or.inl ⟨by rfl, ?_⟩) ?_ ?_
          rotate_left
          ·intro w'
           go_simp
           with_reducible rfl
          rotate_left
          ·simp only [Act.put, List.setIfInBounds_toArray, List.set_cons_zero, List.set_cons_succ, i64_w, i32_w]
           rfl
          refine take_ (i := 5) (N := some 30) (v := ?_) (a' := ?_) #[true, true, true, true, true, true, false, false] rfl rfl (take_ofW HT_.out HW_.out (by kernel_rfl)) (fun _ _ _ h => h) (Or.inl ⟨by rfl, ?_⟩) hHeld ?_ ?_
          rotate_left
          ·rintro w' ⟨s0, s1, s2, s3, s4, s5, s6⟩
           go_simp
           with_reducible rfl
          rotate_left
          ·simp only [Act.put, List.setIfInBounds_toArray, List.set_cons_zero, List.set_cons_succ, i64_w, i32_w]
           rfl
          refine one_ (i := 6) (N := some 31) #[true, true, true, true, true, true, true, false] rfl rfl (one_of HT_.out (by kernel_rfl)) (by decide) (fun K hK => ?_)
          refine goes_ Tryd.func126 (by kernel_rfl) rfl #[.agg #[.int .i64 ((rd_T78 l0_1 x20_1).f0), .int .i64 ((rd_T78 l0_1 x20_1).f1)], .agg #[.int .i64 ((rd_T78 l1_1 x20_1).f0), .int .i64 ((rd_T78 l1_1 x20_1).f1)]] (by rfl) rfl rfl (by (try simp only [List.map_toArray, List.map_cons, List.map_nil]); first | done | rfl | (simp only [List.length_drop, List.length_take]; rfl)) ?_
          with_reducible refine (impl_IvLeq.calls ((rd_T78 l0_1 x20_1).f0) ((rd_T78 l0_1 x20_1).f1) ((rd_T78 l1_1 x20_1).f0) ((rd_T78 l1_1 x20_1).f1) false _ A14.out).mono ?_
          rintro e w29 ⟨rfl, hb⟩
          refine ⟨_, rfl, ?_⟩
          have n0_ := bb BK493 hb
          have n1_ := bb BK494 hb
          have n2_ := bb BK496 hb
          have n3_ := bs HB hb
          clear BK493
          clear BK494
          clear BK496
          clear HB
          have BK493 := n0_
          have BK494 := n1_
          have BK496 := n2_
          have HB := n3_
          clear n0_ n1_ n2_ n3_
          (try clear hb)
          (try clear hb2)
          (try clear hk)
          (try clear hi)
          refine hK.out _ _ ⟨(blk_cell BK496.out 0).trans rfl, (blk_cell BK496.out 1).trans rfl, (blk_cell BK494.out 0).trans rfl, (blk_cell BK494.out 1).trans rfl, (blk_cell BK494.out 2).trans rfl, ((HB.out.cell (World.block_lt_of_cell? w _ hw497_0)).trans hw497_0), ((HB.out.cell (World.block_lt_of_cell? w _ hw497_1)).trans hw497_1)⟩ (fun hHeld => ?_)
          clear hK K
          refine norm_ (a' := ?_) ?_ ?_
          rotate_left
          ·show Act.put _ (some 31) _ = _
           simp only [Act.put, List.setIfInBounds_toArray, List.set_cons_zero, List.set_cons_succ, i64_w, i32_w]
           rfl
          refine pure_ (i := 7) (N := some 32) (v := ?_) (a' := ?_) #[true, true, true, true, true, true, true, true] rfl rfl (any_of HT_.out (by kernel_rfl)) (fun _ _ _ h => h) (Or.inl ⟨by rfl, ?_⟩) ?_ ?_
          rotate_left
          ·intro w'
           go_simp
           with_reducible rfl
          rotate_left
          ·simp only [Act.put, List.setIfInBounds_toArray, List.set_cons_zero, List.set_cons_succ, i64_w, i32_w]
           rfl
          refine done_ (done_of HT_.out (by kernel_rfl)) ?_
          try go_wp2
          go_ret
          exact ⟨by first | rfl | (simp [errW_none, errW_some] <;> rfl) | (simp [*, errW_none, errW_some] <;> rfl), bw HB⟩
        ·rw [if_neg c13] at H
         exact absurd H (by simp)
       ·rw [if_neg c12] at H
        exact absurd H (by simp)
      ·rw [if_neg c11] at H
       exact absurd H (by simp)
     ·rw [if_neg c10] at H
      have c10b0 : decide (x20_1 < (l0_1.length : Int)) = false := decide_eq_false c10
      clear c10
      have H' := Aside0.mk H
      clear H
      have hnb30 := NB493_494.out
      have hnc30 := NB494_493.out
      have hcz31_0 : wr.cell? ⟨gb493, 0, none⟩ = some (.bool true) := (blk_cell BK493.out 0).trans rfl
      have hcz31_1 : wr.cell? ⟨gb493, 1, none⟩ = some (.slice A0_1 l0_1.length c0_1) := (blk_cell BK493.out 1).trans rfl
      have hcz31_2 : wr.cell? ⟨gb493, 2, none⟩ = some (.slice A0_2 l0_2.length c0_2) := (blk_cell BK493.out 2).trans rfl
      have hfz31_0 := blk_frozen BK493.out 0
      have hfz31_1 := blk_frozen BK493.out 1
      have hfz31_2 := blk_frozen BK493.out 2
      go_wp2
      go_loopg [37] k1 (fun kq v37 w' => ∃ (x37_2 : Int), v37 = .int .i64 x37_2 ∧ Aside0 (impl_Env_leq.l1 kq l0_2 (l0_2.length : Int) x37_2 true l1_1 l1_2 = some r) ∧ Aside0 (kq ≤ k1) ∧ Aside0 (w'.heap[gb493]? = some (.cells #[.bool true, (.slice A0_1 l0_1.length c0_1), (.slice A0_2 l0_2.length c0_2)] 41 (0, 0))) ∧ Aside0 (w'.heap[gb494]? = some (.cells #[.bool true, (.slice A1_1 l1_1.length c1_1), (.slice A1_2 l1_2.length c1_2)] 41 (0, 0))) ∧ Aside0 (Below w.heap.size w w'))
      case atStart => exact ⟨(0), (by first | rfl | (simp; done) | (simp [*]; done)), H', ⟨Nat.le_refl _⟩, ⟨bx BK493⟩, ⟨bx BK494⟩, ⟨bw HB⟩⟩
      case round =>
       clear H'
       try clear c1
       try clear c2
       try clear p2
       try clear c3
       try clear c4
       try clear p4
       try clear q4
       try clear hx4
       try clear p6
       try clear c7
       try clear c10
       try clear c10b0
       try clear c11
       try clear c11b0
       try clear c12
       try clear c12b0
       try clear c13
       try clear c13b0
       try clear c15
       try clear c17
       try clear c18
       try clear c24
       try clear c25
       try clear c30
       try clear hcz19_0
       try clear hcz19_1
       try clear hcz26_0
       try clear hcz26_1
       try clear hcz31_0
       try clear hcz31_1
       try clear hcz31_2
       try clear hcz8_0
       try clear hcz8_1
       try clear hcz8_2
       try clear hcz9_0
       try clear hcz9_1
       try clear hcz9_2
       try clear hfz19_0
       try clear hfz19_1
       try clear hfz26_0
       try clear hfz26_1
       try clear hfz31_0
       try clear hfz31_1
       try clear hfz31_2
       try clear hfz8_0
       try clear hfz8_1
       try clear hfz8_2
       try clear hfz9_0
       try clear hfz9_1
       try clear hfz9_2
       try clear hx495_0
       try clear hx495_1
       try clear hx497_0
       try clear hx497_1
       try clear p2
       try clear p495
       try clear p497
       try clear q495
       try clear q497
       obtain ⟨x37_2, rfl, HA, HK2, BK493, BK494, HB⟩ := hrel
       cases gk with
       | zero => exact absurd HA.out (by simp [impl_Env_leq.l1])
       | succ k2 =>
        have H := HA.out
        clear HA
        simp only [impl_Env_leq.l1] at H
        by_cases c32 : x37_2 < (l0_2.length : Int)
        ·rw [if_pos c32] at H
         have c32b0 : decide (x37_2 < (l0_2.length : Int)) = true := decide_eq_true c32
         clear c32
         by_cases c33 : 0 ≤ x37_2
         ·rw [if_pos c33] at H
          have c33b0 : decide (0 ≤ x37_2) = true := decide_eq_true c33
          clear c33
          by_cases c34 : x37_2 < (l0_2.length : Int)
          ·rw [if_pos c34] at H
           have c34b0 : decide (x37_2 < (l0_2.length : Int)) = true := decide_eq_true c34
           clear c34
           by_cases c35 : x37_2 < (l1_2.length : Int)
           ·rw [if_pos c35] at H
            have c35b0 : decide (x37_2 < (l1_2.length : Int)) = true := decide_eq_true c35
            clear c35
            replace H := Option.bind_eq_some_iff.mp H
            obtain ⟨t502, A360, H⟩ := H
            replace H : (if t502 = true then (impl_Env_leq.l1 k2 l0_2 (l0_2.length : Int) (wrap64 (x37_2 + 1)) true l1_1 l1_2) else (some false)) = some r := H
            have A36 := Aside0.mk A360
            clear A360
            by_cases c37 : t502 = true
            ·subst c37
             have H1 : (impl_Env_leq.l1 k2 l0_2 (l0_2.length : Int) (wrap64 (x37_2 + 1)) true l1_1 l1_2) = some r := by rw [if_pos rfl] at H; exact H
             clear H
             have H := H1
             clear H1
             have H' := Aside0.mk H
             clear H
             have p499 : 0 ≤ (x37_2 : Int) := of_decide_eq_true (by first | (with_reducible assumption) | assumption)
             have q499 : x37_2 < (l0_2.length : Int) := of_decide_eq_true (by first | (with_reducible assumption) | assumption)
             obtain ⟨ad499, e499, hx499_0, hx499_1⟩ := at_T78 HR0_2.out x37_2 p499 q499
             cases e499
             replace hx499_0 := (HB.out.cell (World.block_lt_of_cell? w _ hx499_0)).trans hx499_0
             replace hx499_1 := (HB.out.cell (World.block_lt_of_cell? w _ hx499_1)).trans hx499_1
             replace p499 := eq_true p499
             replace q499 := eq_true q499
             try go_wp2_with (((with_reducible refine gate_dst (N := 8) rfl ?_); refine box_event rfl rfl (cs := #[.int .i64 0, .int .i64 0]) (t := 78) (by first | (go_simp; done) | (go_simp; rfl)) ?_; intro gb500 hg w38 hbox hb; have BK500 := Aside0.mk (hbox); have GW500 := bz HB hg; have GE500 := bz HB hg; replace HB := bs HB hb; have NB493_500 := bl BK493 hg; have NB500_493 := bg BK493 hg; replace BK493 := bb BK493 hb; have NB494_500 := bl BK494 hg; have NB500_494 := bg BK494 hg; replace BK494 := bb BK494 hb; clear hb hbox hg; have hnb39 := NB500_493.out; have hnc39 := NB493_500.out; have hnb40 := NB500_494.out; have hnc40 := NB494_500.out; have hcz41_0 : w38.cell? ⟨gb500, 0, none⟩ = some (.int .i64 0) := (blk_cell BK500.out 0).trans rfl; have hcz41_1 : w38.cell? ⟨gb500, 1, none⟩ = some (.int .i64 0) := (blk_cell BK500.out 1).trans rfl; have hfz41_0 := blk_frozen BK500.out 0; have hfz41_1 := blk_frozen BK500.out 1))
             have n0_ : Aside0 (((w38.setCell ⟨gb500, 0, none⟩ (.int .i64 ((rd_T78 l0_2 x37_2).f0))).setCell ⟨gb500, 1, none⟩ (.int .i64 ((rd_T78 l0_2 x37_2).f1))).heap[gb493]? = some (.cells #[.bool true, .slice A0_1 l0_1.length c0_1, .slice (some ad499) l0_2.length c0_2] 41 (0, 0))) := ⟨bx BK493⟩
             have n1_ : Aside0 (((w38.setCell ⟨gb500, 0, none⟩ (.int .i64 ((rd_T78 l0_2 x37_2).f0))).setCell ⟨gb500, 1, none⟩ (.int .i64 ((rd_T78 l0_2 x37_2).f1))).heap[gb494]? = some (.cells #[.bool true, .slice A1_1 l1_1.length c1_1, .slice A1_2 l1_2.length c1_2] 41 (0, 0))) := ⟨bx BK494⟩
             have n2_ : Aside0 (((w38.setCell ⟨gb500, 0, none⟩ (.int .i64 ((rd_T78 l0_2 x37_2).f0))).setCell ⟨gb500, 1, none⟩ (.int .i64 ((rd_T78 l0_2 x37_2).f1))).heap[gb500]? = some (.cells #[.int .i64 ((rd_T78 l0_2 x37_2).f0), .int .i64 ((rd_T78 l0_2 x37_2).f1)] 78 (0, 0))) := ⟨by (with_reducible repeat (first | refine blk_drewN ?_ _ | refine blk_drew ?_ | refine blk_alloc ?_ _)); refine blk_put (cs := #[.int .i64 ((rd_T78 l0_2 x37_2).f0), .int .i64 0]) ?_ 1 _ rfl; (with_reducible repeat (first | refine blk_drewN ?_ _ | refine blk_drew ?_ | refine blk_alloc ?_ _)); refine blk_put (cs := #[.int .i64 0, .int .i64 0]) ?_ 0 _ rfl; (with_reducible repeat (first | refine blk_drewN ?_ _ | refine blk_drew ?_ | refine blk_alloc ?_ _)); exact BK500.out⟩
             have n3_ : Aside0 (Below w.heap.size w ((w38.setCell ⟨gb500, 0, none⟩ (.int .i64 ((rd_T78 l0_2 x37_2).f0))).setCell ⟨gb500, 1, none⟩ (.int .i64 ((rd_T78 l0_2 x37_2).f1)))) := ⟨bw HB⟩
             (try clear BK493)
             (try clear BK494)
             (try clear BK500)
             (try clear HB)
             generalize ((w38.setCell ⟨gb500, 0, none⟩ (.int .i64 ((rd_T78 l0_2 x37_2).f0))).setCell ⟨gb500, 1, none⟩ (.int .i64 ((rd_T78 l0_2 x37_2).f1))) = w42 at n0_ n1_ n2_ n3_ ⊢
             have BK493 := n0_
             have BK494 := n1_
             have BK500 := n2_
             have HB := n3_
             clear n0_ n1_ n2_ n3_
             have n0_ := Aside0.mk (blk_drew BK493.out)
             have n1_ := Aside0.mk (blk_drew BK494.out)
             have n2_ := Aside0.mk (blk_drew BK500.out)
             have n3_ := Aside0.mk (below_drew1 HB.out)
             clear BK493
             clear BK494
             clear BK500
             clear HB
             have BK493 := n0_
             have BK494 := n1_
             have BK500 := n2_
             have HB := n3_
             clear n0_ n1_ n2_ n3_
             have p501 : 0 ≤ (x37_2 : Int) := of_decide_eq_true (by first | (with_reducible assumption) | assumption)
             have q501 : x37_2 < (l1_2.length : Int) := of_decide_eq_true (by first | (with_reducible assumption) | assumption)
             obtain ⟨ad501, e501, hx501_0, hx501_1⟩ := at_T78 HR1_2.out x37_2 p501 q501
             have hw501_1 := hx501_1
             have hw501_0 := hx501_0
             cases e501
             replace hx501_0 := (HB.out.cell (World.block_lt_of_cell? w _ hx501_0)).trans hx501_0
             replace hx501_1 := (HB.out.cell (World.block_lt_of_cell? w _ hx501_1)).trans hx501_1
             replace p501 := eq_true p501
             replace q501 := eq_true q501
             refine start_ (n := 8) (S := fun w' => w'.cell? ⟨gb500, 0, none⟩ = some (.int .i64 ((rd_T78 l0_2 x37_2).f0)) ∧ w'.cell? ⟨gb500, 1, none⟩ = some (.int .i64 ((rd_T78 l0_2 x37_2).f1)) ∧ w'.cell? ⟨gb494, 0, none⟩ = some (.bool true) ∧ w'.cell? ⟨gb494, 1, none⟩ = some (.slice A1_1 l1_1.length c1_1) ∧ w'.cell? ⟨gb494, 2, none⟩ = some (.slice (some ad501) l1_2.length c1_2) ∧ w'.cell? (ad501.add ((x37_2).toNat * 2)) = some (.int .i64 ((rd_T78 l1_2 x37_2).f0)) ∧ w'.cell? ⟨(ad501.add ((x37_2).toNat * 2)).block, (ad501.add ((x37_2).toNat * 2)).off + 1, none⟩ = some (.int .i64 ((rd_T78 l1_2 x37_2).f1))) (ds := []) #[false, false, false, false, false, false, false, false] (by kernel_rfl) rfl rfl ⟨(blk_cell BK500.out 0).trans rfl, (blk_cell BK500.out 1).trans rfl, (blk_cell BK494.out 0).trans rfl, (blk_cell BK494.out 1).trans rfl, (blk_cell BK494.out 2).trans rfl, ((HB.out.cell (World.block_lt_of_cell? w _ hw501_0)).trans hw501_0), ((HB.out.cell (World.block_lt_of_cell? w _ hw501_1)).trans hw501_1)⟩ (fun hHeld => ?_); refine with_tabW impl_Env_leq.tab14 impl_Env_leq.bits14 (fun HT_ HW_ => ?_)
             generalize w42.drew = w43 at BK493 BK494 BK500 HB hx501_0 hx501_1 hHeld ⊢
             refine pure_ (i := 1) (N := some 43) (v := ?_) (a' := ?_) #[false, true, false, false, false, false, false, false] rfl rfl (any_of HT_.out (by kernel_rfl)) (fun _ _ _ h => h) (Or.inl ⟨by rfl, ?_⟩) ?_ ?_
             rotate_left
             ·intro w'
              go_simp
              with_reducible rfl
             rotate_left
             ·simp only [Act.put, List.setIfInBounds_toArray, List.set_cons_zero, List.set_cons_succ, i64_w, i32_w]
              rfl
             refine pure_ (i := 3) (N := some 45) (v := ?_) (a' := ?_) #[false, true, false, true, false, false, false, false] rfl rfl (any_of HT_.out (by kernel_rfl)) (fun _ _ _ h => h) (Or.inl ⟨by rfl, ?_⟩) ?_ ?_
             rotate_left
             ·intro w'
              go_simp
              with_reducible rfl
             rotate_left
             ·simp only [Act.put, List.setIfInBounds_toArray, List.set_cons_zero, List.set_cons_succ, i64_w, i32_w]
              rfl
             refine take_ (i := 0) (N := some 42) (v := ?_) (a' := ?_) #[true, true, false, true, false, false, false, false] rfl rfl (take_ofW HT_.out HW_.out (by kernel_rfl)) (fun _ _ _ h => h) (Or.inl ⟨by rfl, ?_⟩) hHeld ?_ ?_
             rotate_left
             ·rintro w' ⟨s0, s1, s2, s3, s4, s5, s6⟩
              go_simp
              with_reducible rfl
             rotate_left
             ·simp only [Act.put, List.setIfInBounds_toArray, List.set_cons_zero, List.set_cons_succ, i64_w, i32_w]
              rfl
             refine take_ (i := 2) (N := some 44) (v := ?_) (a' := ?_) #[true, true, true, true, false, false, false, false] rfl rfl (take_ofW HT_.out HW_.out (by kernel_rfl)) (fun _ _ _ h => h) (Or.inl ⟨by rfl, ?_⟩) hHeld ?_ ?_
             rotate_left
             ·rintro w' ⟨s0, s1, s2, s3, s4, s5, s6⟩
              go_simp
              with_reducible rfl
             rotate_left
             ·simp only [Act.put, List.setIfInBounds_toArray, List.set_cons_zero, List.set_cons_succ, i64_w, i32_w]
              rfl
             refine pure_ (i := 4) (N := some 46) (v := ?_) (a' := ?_) #[true, true, true, true, true, false, false, false] rfl rfl (any_of HT_.out (by kernel_rfl)) (fun _ _ _ h => h) (Or.inl ⟨by rfl, ?_⟩) ?_ ?_
             rotate_left
             ·intro w'
              go_simp
              with_reducible rfl
             rotate_left
             ·simp only [Act.put, List.setIfInBounds_toArray, List.set_cons_zero, List.set_cons_succ, i64_w, i32_w]
              rfl
             refine take_ (i := 5) (N := some 47) (v := ?_) (a' := ?_) #[true, true, true, true, true, true, false, false] rfl rfl (take_ofW HT_.out HW_.out (by kernel_rfl)) (fun _ _ _ h => h) (Or.inl ⟨by rfl, ?_⟩) hHeld ?_ ?_
             rotate_left
             ·rintro w' ⟨s0, s1, s2, s3, s4, s5, s6⟩
              go_simp
              with_reducible rfl
             rotate_left
             ·simp only [Act.put, List.setIfInBounds_toArray, List.set_cons_zero, List.set_cons_succ, i64_w, i32_w]
              rfl
             refine one_ (i := 6) (N := some 48) #[true, true, true, true, true, true, true, false] rfl rfl (one_of HT_.out (by kernel_rfl)) (by decide) (fun K hK => ?_)
             refine goes_ Tryd.func126 (by kernel_rfl) rfl #[.agg #[.int .i64 ((rd_T78 l0_2 x37_2).f0), .int .i64 ((rd_T78 l0_2 x37_2).f1)], .agg #[.int .i64 ((rd_T78 l1_2 x37_2).f0), .int .i64 ((rd_T78 l1_2 x37_2).f1)]] (by rfl) rfl rfl (by (try simp only [List.map_toArray, List.map_cons, List.map_nil]); first | done | rfl | (simp only [List.length_drop, List.length_take]; rfl)) ?_
             with_reducible refine (impl_IvLeq.calls ((rd_T78 l0_2 x37_2).f0) ((rd_T78 l0_2 x37_2).f1) ((rd_T78 l1_2 x37_2).f0) ((rd_T78 l1_2 x37_2).f1) true _ A36.out).mono ?_
             rintro e w44 ⟨rfl, hb⟩
             refine ⟨_, rfl, ?_⟩
             have n0_ := bb BK493 hb
             have n1_ := bb BK494 hb
             have n2_ := bb BK500 hb
             have n3_ := bs HB hb
             clear BK493
             clear BK494
             clear BK500
             clear HB
             have BK493 := n0_
             have BK494 := n1_
             have BK500 := n2_
             have HB := n3_
             clear n0_ n1_ n2_ n3_
             (try clear hb)
             (try clear hb2)
             (try clear hk)
             (try clear hi)
             refine hK.out _ _ ⟨(blk_cell BK500.out 0).trans rfl, (blk_cell BK500.out 1).trans rfl, (blk_cell BK494.out 0).trans rfl, (blk_cell BK494.out 1).trans rfl, (blk_cell BK494.out 2).trans rfl, ((HB.out.cell (World.block_lt_of_cell? w _ hw501_0)).trans hw501_0), ((HB.out.cell (World.block_lt_of_cell? w _ hw501_1)).trans hw501_1)⟩ (fun hHeld => ?_)
             clear hK K
             refine norm_ (a' := ?_) ?_ ?_
             rotate_left
             ·show Act.put _ (some 48) _ = _
              simp only [Act.put, List.setIfInBounds_toArray, List.set_cons_zero, List.set_cons_succ, i64_w, i32_w]
              rfl
             refine pure_ (i := 7) (N := some 49) (v := ?_) (a' := ?_) #[true, true, true, true, true, true, true, true] rfl rfl (any_of HT_.out (by kernel_rfl)) (fun _ _ _ h => h) (Or.inl ⟨by rfl, ?_⟩) ?_ ?_
             rotate_left
             ·intro w'
              go_simp
              with_reducible rfl
             rotate_left
             ·simp only [Act.put, List.setIfInBounds_toArray, List.set_cons_zero, List.set_cons_succ, i64_w, i32_w]
              rfl
             refine done_ (done_of HT_.out (by kernel_rfl)) ?_
             try go_wp2
             go_roundg k2
             case measure => have := HK1.out; have := HK2.out; omega
             case rel => exact ⟨(wrap64 (x37_2 + 1)), (by first | rfl | (simp; done) | (simp [*]; done)), H', ⟨by have := HK1.out; have := HK2.out; omega⟩, ⟨bx BK493⟩, ⟨bx BK494⟩, ⟨bw HB⟩⟩
            ·replace c37 := Bool.eq_false_iff.mpr c37
             subst c37
             have H1 : (some false) = some r := by rw [if_neg (show ¬ (false = true) by decide)] at H; exact H
             clear H
             have H := H1
             clear H1
             obtain rfl := Option.some.inj H
             have p499 : 0 ≤ (x37_2 : Int) := of_decide_eq_true (by first | (with_reducible assumption) | assumption)
             have q499 : x37_2 < (l0_2.length : Int) := of_decide_eq_true (by first | (with_reducible assumption) | assumption)
             obtain ⟨ad499, e499, hx499_0, hx499_1⟩ := at_T78 HR0_2.out x37_2 p499 q499
             cases e499
             replace hx499_0 := (HB.out.cell (World.block_lt_of_cell? w _ hx499_0)).trans hx499_0
             replace hx499_1 := (HB.out.cell (World.block_lt_of_cell? w _ hx499_1)).trans hx499_1
             replace p499 := eq_true p499
             replace q499 := eq_true q499
             try go_wp2_with (((with_reducible refine gate_dst (N := 8) rfl ?_); refine box_event rfl rfl (cs := #[.int .i64 0, .int .i64 0]) (t := 78) (by first | (go_simp; done) | (go_simp; rfl)) ?_; intro gb500 hg w45 hbox hb; have BK500 := Aside0.mk (hbox); have GW500 := bz HB hg; have GE500 := bz HB hg; replace HB := bs HB hb; have NB493_500 := bl BK493 hg; have NB500_493 := bg BK493 hg; replace BK493 := bb BK493 hb; have NB494_500 := bl BK494 hg; have NB500_494 := bg BK494 hg; replace BK494 := bb BK494 hb; clear hb hbox hg; have hnb46 := NB500_493.out; have hnc46 := NB493_500.out; have hnb47 := NB500_494.out; have hnc47 := NB494_500.out; have hcz48_0 : w45.cell? ⟨gb500, 0, none⟩ = some (.int .i64 0) := (blk_cell BK500.out 0).trans rfl; have hcz48_1 : w45.cell? ⟨gb500, 1, none⟩ = some (.int .i64 0) := (blk_cell BK500.out 1).trans rfl; have hfz48_0 := blk_frozen BK500.out 0; have hfz48_1 := blk_frozen BK500.out 1))
             have n0_ : Aside0 (((w45.setCell ⟨gb500, 0, none⟩ (.int .i64 ((rd_T78 l0_2 x37_2).f0))).setCell ⟨gb500, 1, none⟩ (.int .i64 ((rd_T78 l0_2 x37_2).f1))).heap[gb493]? = some (.cells #[.bool true, .slice A0_1 l0_1.length c0_1, .slice (some ad499) l0_2.length c0_2] 41 (0, 0))) := ⟨bx BK493⟩
             have n1_ : Aside0 (((w45.setCell ⟨gb500, 0, none⟩ (.int .i64 ((rd_T78 l0_2 x37_2).f0))).setCell ⟨gb500, 1, none⟩ (.int .i64 ((rd_T78 l0_2 x37_2).f1))).heap[gb494]? = some (.cells #[.bool true, .slice A1_1 l1_1.length c1_1, .slice A1_2 l1_2.length c1_2] 41 (0, 0))) := ⟨bx BK494⟩
             have n2_ : Aside0 (((w45.setCell ⟨gb500, 0, none⟩ (.int .i64 ((rd_T78 l0_2 x37_2).f0))).setCell ⟨gb500, 1, none⟩ (.int .i64 ((rd_T78 l0_2 x37_2).f1))).heap[gb500]? = some (.cells #[.int .i64 ((rd_T78 l0_2 x37_2).f0), .int .i64 ((rd_T78 l0_2 x37_2).f1)] 78 (0, 0))) := ⟨by (with_reducible repeat (first | refine blk_drewN ?_ _ | refine blk_drew ?_ | refine blk_alloc ?_ _)); refine blk_put (cs := #[.int .i64 ((rd_T78 l0_2 x37_2).f0), .int .i64 0]) ?_ 1 _ rfl; (with_reducible repeat (first | refine blk_drewN ?_ _ | refine blk_drew ?_ | refine blk_alloc ?_ _)); refine blk_put (cs := #[.int .i64 0, .int .i64 0]) ?_ 0 _ rfl; (with_reducible repeat (first | refine blk_drewN ?_ _ | refine blk_drew ?_ | refine blk_alloc ?_ _)); exact BK500.out⟩
             have n3_ : Aside0 (Below w.heap.size w ((w45.setCell ⟨gb500, 0, none⟩ (.int .i64 ((rd_T78 l0_2 x37_2).f0))).setCell ⟨gb500, 1, none⟩ (.int .i64 ((rd_T78 l0_2 x37_2).f1)))) := ⟨bw HB⟩
             (try clear BK493)
             (try clear BK494)
             (try clear BK500)
             (try clear HB)
             generalize ((w45.setCell ⟨gb500, 0, none⟩ (.int .i64 ((rd_T78 l0_2 x37_2).f0))).setCell ⟨gb500, 1, none⟩ (.int .i64 ((rd_T78 l0_2 x37_2).f1))) = w49 at n0_ n1_ n2_ n3_ ⊢
             have BK493 := n0_
             have BK494 := n1_
             have BK500 := n2_
             have HB := n3_
             clear n0_ n1_ n2_ n3_
             have n0_ := Aside0.mk (blk_drew BK493.out)
             have n1_ := Aside0.mk (blk_drew BK494.out)
             have n2_ := Aside0.mk (blk_drew BK500.out)
             have n3_ := Aside0.mk (below_drew1 HB.out)
             clear BK493
             clear BK494
             clear BK500
             clear HB
             have BK493 := n0_
             have BK494 := n1_
             have BK500 := n2_
             have HB := n3_
             clear n0_ n1_ n2_ n3_
             have p501 : 0 ≤ (x37_2 : Int) := of_decide_eq_true (by first | (with_reducible assumption) | assumption)
             have q501 : x37_2 < (l1_2.length : Int) := of_decide_eq_true (by first | (with_reducible assumption) | assumption)
             obtain ⟨ad501, e501, hx501_0, hx501_1⟩ := at_T78 HR1_2.out x37_2 p501 q501
             have hw501_1 := hx501_1
             have hw501_0 := hx501_0
             cases e501
             replace hx501_0 := (HB.out.cell (World.block_lt_of_cell? w _ hx501_0)).trans hx501_0
             replace hx501_1 := (HB.out.cell (World.block_lt_of_cell? w _ hx501_1)).trans hx501_1
             replace p501 := eq_true p501
             replace q501 := eq_true q501
             refine start_ (n := 8) (S := fun w' => w'.cell? ⟨gb500, 0, none⟩ = some (.int .i64 ((rd_T78 l0_2 x37_2).f0)) ∧ w'.cell? ⟨gb500, 1, none⟩ = some (.int .i64 ((rd_T78 l0_2 x37_2).f1)) ∧ w'.cell? ⟨gb494, 0, none⟩ = some (.bool true) ∧ w'.cell? ⟨gb494, 1, none⟩ = some (.slice A1_1 l1_1.length c1_1) ∧ w'.cell? ⟨gb494, 2, none⟩ = some (.slice (some ad501) l1_2.length c1_2) ∧ w'.cell? (ad501.add ((x37_2).toNat * 2)) = some (.int .i64 ((rd_T78 l1_2 x37_2).f0)) ∧ w'.cell? ⟨(ad501.add ((x37_2).toNat * 2)).block, (ad501.add ((x37_2).toNat * 2)).off + 1, none⟩ = some (.int .i64 ((rd_T78 l1_2 x37_2).f1))) (ds := []) #[false, false, false, false, false, false, false, false] (by kernel_rfl) rfl rfl ⟨(blk_cell BK500.out 0).trans rfl, (blk_cell BK500.out 1).trans rfl, (blk_cell BK494.out 0).trans rfl, (blk_cell BK494.out 1).trans rfl, (blk_cell BK494.out 2).trans rfl, ((HB.out.cell (World.block_lt_of_cell? w _ hw501_0)).trans hw501_0), ((HB.out.cell (World.block_lt_of_cell? w _ hw501_1)).trans hw501_1)⟩ (fun hHeld => ?_); refine with_tabW impl_Env_leq.tab14 impl_Env_leq.bits14 (fun HT_ HW_ => ?_)
             generalize w49.drew = w50 at BK493 BK494 BK500 HB hx501_0 hx501_1 hHeld ⊢
             refine pure_ (i := 1) (N := some 43) (v := ?_) (a' := ?_) #[false, true, false, false, false, false, false, false] rfl rfl (any_of HT_.out (by kernel_rfl)) (fun _ _ _ h => h) (Or.inl ⟨by rfl, ?_⟩) ?_ ?_
             rotate_left
             ·intro w'
              go_simp
              with_reducible rfl
             rotate_left
             ·simp only [Act.put, List.setIfInBounds_toArray, List.set_cons_zero, List.set_cons_succ, i64_w, i32_w]
              rfl
             refine pure_ (i := 3) (N := some 45) (v := ?_) (a' := ?_) #[false, true, false, true, false, false, false, false] rfl rfl (any_of HT_.out (by kernel_rfl)) (fun _ _ _ h => h) (Or.inl ⟨by rfl, ?_⟩) ?_ ?_
             rotate_left
             ·intro w'
              go_simp
              with_reducible rfl
             rotate_left
             ·simp only [Act.put, List.setIfInBounds_toArray, List.set_cons_zero, List.set_cons_succ, i64_w, i32_w]
              rfl
             refine take_ (i := 0) (N := some 42) (v := ?_) (a' := ?_) #[true, true, false, true, false, false, false, false] rfl rfl (take_ofW HT_.out HW_.out (by kernel_rfl)) (fun _ _ _ h => h) (Or.inl ⟨by rfl, ?_⟩) hHeld ?_ ?_
             rotate_left
             ·rintro w' ⟨s0, s1, s2, s3, s4, s5, s6⟩
              go_simp
              with_reducible rfl
             rotate_left
             ·simp only [Act.put, List.setIfInBounds_toArray, List.set_cons_zero, List.set_cons_succ, i64_w, i32_w]
              rfl
             refine take_ (i := 2) (N := some 44) (v := ?_) (a' := ?_) #[true, true, true, true, false, false, false, false] rfl rfl (take_ofW HT_.out HW_.out (by kernel_rfl)) (fun _ _ _ h => h) (Or.inl ⟨by rfl, ?_⟩) hHeld ?_ ?_
             rotate_left
             ·rintro w' ⟨s0, s1, s2, s3, s4, s5, s6⟩
              go_simp
              with_reducible rfl
             rotate_left
             ·simp only [Act.put, List.setIfInBounds_toArray, List.set_cons_zero, List.set_cons_succ, i64_w, i32_w]
              rfl
             refine pure_ (i := 4) (N := some 46) (v := ?_) (a' := ?_) #[true, true, true, true, true, false, false, false] rfl rfl (any_of HT_.out (by kernel_rfl)) (fun _ _ _ h => h) (Or.inl ⟨by rfl, ?_⟩) ?_ ?_
             rotate_left
             ·intro w'
              go_simp
              with_reducible rfl
             rotate_left
             ·simp only [Act.put, List.setIfInBounds_toArray, List.set_cons_zero, List.set_cons_succ, i64_w, i32_w]
              rfl
             refine take_ (i := 5) (N := some 47) (v := ?_) (a' := ?_) #[true, true, true, true, true, true, false, false] rfl rfl (take_ofW HT_.out HW_.out (by kernel_rfl)) (fun _ _ _ h => h) (Or.inl ⟨by rfl, ?_⟩) hHeld ?_ ?_
             rotate_left
             ·rintro w' ⟨s0, s1, s2, s3, s4, s5, s6⟩
              go_simp
              with_reducible rfl
             rotate_left
             ·simp only [Act.put, List.setIfInBounds_toArray, List.set_cons_zero, List.set_cons_succ, i64_w, i32_w]
              rfl
             refine one_ (i := 6) (N := some 48) #[true, true, true, true, true, true, true, false] rfl rfl (one_of HT_.out (by kernel_rfl)) (by decide) (fun K hK => ?_)
             refine goes_ Tryd.func126 (by kernel_rfl) rfl #[.agg #[.int .i64 ((rd_T78 l0_2 x37_2).f0), .int .i64 ((rd_T78 l0_2 x37_2).f1)], .agg #[.int .i64 ((rd_T78 l1_2 x37_2).f0), .int .i64 ((rd_T78 l1_2 x37_2).f1)]] (by rfl) rfl rfl (by (try simp only [List.map_toArray, List.map_cons, List.map_nil]); first | done | rfl | (simp only [List.length_drop, List.length_take]; rfl)) ?_
             with_reducible refine (impl_IvLeq.calls ((rd_T78 l0_2 x37_2).f0) ((rd_T78 l0_2 x37_2).f1) ((rd_T78 l1_2 x37_2).f0) ((rd_T78 l1_2 x37_2).f1) false _ A36.out).mono ?_
             rintro e w51 ⟨rfl, hb⟩
             refine ⟨_, rfl, ?_⟩
             have n0_ := bb BK493 hb
             have n1_ := bb BK494 hb
             have n2_ := bb BK500 hb
             have n3_ := bs HB hb
             clear BK493
             clear BK494
             clear BK500
             clear HB
             have BK493 := n0_
             have BK494 := n1_
             have BK500 := n2_
             have HB := n3_
             clear n0_ n1_ n2_ n3_
             (try clear hb)
             (try clear hb2)
             (try clear hk)
             (try clear hi)
             refine hK.out _ _ ⟨(blk_cell BK500.out 0).trans rfl, (blk_cell BK500.out 1).trans rfl, (blk_cell BK494.out 0).trans rfl, (blk_cell BK494.out 1).trans rfl, (blk_cell BK494.out 2).trans rfl, ((HB.out.cell (World.block_lt_of_cell? w _ hw501_0)).trans hw501_0), ((HB.out.cell (World.block_lt_of_cell? w _ hw501_1)).trans hw501_1)⟩ (fun hHeld => ?_)
             clear hK K
             refine norm_ (a' := ?_) ?_ ?_
             rotate_left
             ·show Act.put _ (some 48) _ = _
              simp only [Act.put, List.setIfInBounds_toArray, List.set_cons_zero, List.set_cons_succ, i64_w, i32_w]
              rfl
             refine pure_ (i := 7) (N := some 49) (v := ?_) (a' := ?_) #[true, true, true, true, true, true, true, true] rfl rfl (any_of HT_.out (by kernel_rfl)) (fun _ _ _ h => h) (Or.inl ⟨by rfl, ?_⟩) ?_ ?_
             rotate_left
             ·intro w'
              go_simp
              with_reducible rfl
             rotate_left
             ·simp only [Act.put, List.setIfInBounds_toArray, List.set_cons_zero, List.set_cons_succ, i64_w, i32_w]
              rfl
             refine done_ (done_of HT_.out (by kernel_rfl)) ?_
             try go_wp2
             go_ret
             exact ⟨by first | rfl | (simp [errW_none, errW_some] <;> rfl) | (simp [*, errW_none, errW_some] <;> rfl), bw HB⟩
           ·rw [if_neg c35] at H
            exact absurd H (by simp)
          ·rw [if_neg c34] at H
           exact absurd H (by simp)
         ·rw [if_neg c33] at H
          exact absurd H (by simp)
        ·rw [if_neg c32] at H
         have c32b0 : decide (x37_2 < (l0_2.length : Int)) = false := decide_eq_false c32
         clear c32
         obtain rfl := Option.some.inj H
         go_wp2
         go_ret
         exact ⟨by first | rfl | (simp [errW_none, errW_some] <;> rfl) | (simp [*, errW_none, errW_some] <;> rfl), bw HB⟩
  ·replace c4 := Bool.eq_false_iff.mpr c4
   subst c4
   have H1 : (some false) = some r := by rw [if_neg (show ¬ (false = true) by decide)] at H; exact H
   clear H
   have H := H1
   clear H1
   obtain rfl := Option.some.inj H
   go_enter Tryd.func79, Tryd.ntmps79
   go_wp2_with (first | ((with_reducible refine gate_dst (N := 2) rfl ?_); refine box_event rfl rfl (cs := #[.bool true, .slice A0_1 l0_1.length c0_1, .slice A0_2 l0_2.length c0_2]) (t := 41) (by first | (go_simp; done) | (go_simp; rfl)) ?_; intro gb493 hg w52 hbox hb; have BK493 := Aside0.mk (hbox); have GW493 := bz HB hg; have GE493 := bz HB hg; replace HB := bs HB hb; clear hb hbox hg) | ((with_reducible refine gate_dst (N := 3) rfl ?_); refine box_event rfl rfl (cs := #[.bool false, .slice A1_1 l1_1.length c1_1, .slice A1_2 l1_2.length c1_2]) (t := 41) (by first | (go_simp; done) | (go_simp; rfl)) ?_; intro gb494 hg w53 hbox hb; have BK494 := Aside0.mk (hbox); have GW494 := bz HB hg; have GE494 := bz HB hg; replace HB := bs HB hb; have NB493_494 := bl BK493 hg; have NB494_493 := bg BK493 hg; replace BK493 := bb BK493 hb; clear hb hbox hg; have hnb54 := NB493_494.out; have hnc54 := NB494_493.out; have hcz55_0 : w53.cell? ⟨gb493, 0, none⟩ = some (.bool true) := (blk_cell BK493.out 0).trans rfl; have hcz55_1 : w53.cell? ⟨gb493, 1, none⟩ = some (.slice A0_1 l0_1.length c0_1) := (blk_cell BK493.out 1).trans rfl; have hcz55_2 : w53.cell? ⟨gb493, 2, none⟩ = some (.slice A0_2 l0_2.length c0_2) := (blk_cell BK493.out 2).trans rfl; have hfz55_0 := blk_frozen BK493.out 0; have hfz55_1 := blk_frozen BK493.out 1; have hfz55_2 := blk_frozen BK493.out 2; have hcz56_0 : w53.cell? ⟨gb494, 0, none⟩ = some (.bool false) := (blk_cell BK494.out 0).trans rfl; have hcz56_1 : w53.cell? ⟨gb494, 1, none⟩ = some (.slice A1_1 l1_1.length c1_1) := (blk_cell BK494.out 1).trans rfl; have hcz56_2 : w53.cell? ⟨gb494, 2, none⟩ = some (.slice A1_2 l1_2.length c1_2) := (blk_cell BK494.out 2).trans rfl; have hfz56_0 := blk_frozen BK494.out 0; have hfz56_1 := blk_frozen BK494.out 1; have hfz56_2 := blk_frozen BK494.out 2))
   go_ret
   exact ⟨by first | rfl | (simp [errW_none, errW_some] <;> rfl) | (simp [*, errW_none, errW_some] <;> rfl), bw HB⟩
 ·replace c3 := Bool.eq_false_iff.mpr c3
  subst c3
  have H1 : (some true) = some r := by rw [if_neg (show ¬ (false = true) by decide)] at H; exact H
  clear H
  have H := H1
  clear H1
  obtain rfl := Option.some.inj H
  go_enter Tryd.func79, Tryd.ntmps79
  go_wp2_with (first | ((with_reducible refine gate_dst (N := 2) rfl ?_); refine box_event rfl rfl (cs := #[.bool false, .slice A0_1 l0_1.length c0_1, .slice A0_2 l0_2.length c0_2]) (t := 41) (by first | (go_simp; done) | (go_simp; rfl)) ?_; intro gb493 hg w57 hbox hb; have BK493 := Aside0.mk (hbox); have GW493 := bz HB hg; have GE493 := bz HB hg; replace HB := bs HB hb; clear hb hbox hg) | ((with_reducible refine gate_dst (N := 3) rfl ?_); refine box_event rfl rfl (cs := #[.bool a1_0, .slice A1_1 l1_1.length c1_1, .slice A1_2 l1_2.length c1_2]) (t := 41) (by first | (go_simp; done) | (go_simp; rfl)) ?_; intro gb494 hg w58 hbox hb; have BK494 := Aside0.mk (hbox); have GW494 := bz HB hg; have GE494 := bz HB hg; replace HB := bs HB hb; have NB493_494 := bl BK493 hg; have NB494_493 := bg BK493 hg; replace BK493 := bb BK493 hb; clear hb hbox hg; have hnb59 := NB493_494.out; have hnc59 := NB494_493.out; have hcz60_0 : w58.cell? ⟨gb493, 0, none⟩ = some (.bool false) := (blk_cell BK493.out 0).trans rfl; have hcz60_1 : w58.cell? ⟨gb493, 1, none⟩ = some (.slice A0_1 l0_1.length c0_1) := (blk_cell BK493.out 1).trans rfl; have hcz60_2 : w58.cell? ⟨gb493, 2, none⟩ = some (.slice A0_2 l0_2.length c0_2) := (blk_cell BK493.out 2).trans rfl; have hfz60_0 := blk_frozen BK493.out 0; have hfz60_1 := blk_frozen BK493.out 1; have hfz60_2 := blk_frozen BK493.out 2))
  go_ret
  exact ⟨by first | rfl | (simp [errW_none, errW_some] <;> rfl) | (simp [*, errW_none, errW_some] <;> rfl), bw HB⟩

end Go.Proofs.YtcomagipdbdglaaDoor.Q
