-- Contracts of the program's functions, each with the plain function that it computes.
import Derived.Test.YtcomagipdbdglaaDoorQx0
import Derived.Test.YtcomagipdbdglaaDoorQx36
import Derived.Test.YtcomagipdbdglaaDoorQx37
import Derived.Test.YtcomagipdbdglaaDoorQx38
namespace Go.Proofs.YtcomagipdbdglaaDoor.Q
open Go.RowKit Go.Proofs.YtcomagipdbdglaaDoorW.PrintWords Go.Proofs.YtcomagipdbdglaaDoorW.PrintLast Go.Proofs.YtcomagipdbdglaaDoorW.PrintMore
attribute [local go_sem] max2_int min2_int max_two min_two max_three min_three max_four min_four   -- for this text's walks alone
set_option linter.unusedVariables false
set_option linter.unusedSimpArgs false

/-! ### laws_markStore: function 42 -/
def laws_markStore.f (k : Nat) (l0 : List Int) (l1 : List Bool) (l2 : List (List Int)) (a : Int) : Option (Int × List Int × List Bool × List (List Int)) :=
 (laws_markInt64S.f k l0 a).bind fun r => (laws_markBoolS.f k l1 r.1).bind fun s => (laws_markInt64SS.f k l2 s.1).bind fun t => some (t.1, r.2, s.2, t.2)
set_option maxHeartbeats 4000000 in
set_option maxRecDepth 100000 in
theorem laws_markStore.calls (k : Nat) (P0 P1 P2 : Nat → Prop) (u0 u1 u2 : Value) (l0 : List Int) (l1 : List Bool) (l2 : List (List Int)) (a1 r1 : Int) (m0 : List Int) (m1 : List Bool) (m2 : List (List Int)) (w0 w : World) (hB : Below w0.heap.size w0 w)
  (ho0 : Kd.R (Kd.int .i64) 2 w w0.heap.size P0 u0 l0) (ho1 : Kd.R Kd.bool 4 w w0.heap.size P1 u1 l1) (ho2 : Kd.S (Kd.slice 2 (Kd.int .i64)) 45 w w0.heap.size P2 u2 l2)
  (h01 : ∀ k, P0 k → ¬ P1 k) (h02 : ∀ k, P0 k → ¬ P2 k) (h12 : ∀ k, P1 k → ¬ P2 k) (h : laws_markStore.f k l0 l1 l2 a1 = some (r1, m0, m1, m2)) :
  Calls Tryd.prog 42 #[.agg #[u0, u1, u2], .int .i64 a1] w fun e w' => e = .returned (.int .i64 r1) ∧ Kd.R (Kd.int .i64) 2 w' w0.heap.size P0 u0 m0 ∧ Kd.R Kd.bool 4 w' w0.heap.size P1 u1 m1 ∧ Kd.S (Kd.slice 2 (Kd.int .i64)) 45 w' w0.heap.size P2 u2 m2 ∧ Below w0.heap.size w0 w' ∧ Kept w w' (fun k => P0 k ∨ P1 k ∨ P2 k) := by
 unfold laws_markStore.f at h
 obtain ⟨⟨q0, n0⟩, e0, h⟩ := Option.bind_eq_some_iff.mp h
 obtain ⟨⟨q1, n1⟩, e1, h⟩ := Option.bind_eq_some_iff.mp h
 obtain ⟨⟨q2, n2⟩, e2, h⟩ := Option.bind_eq_some_iff.mp h
 simp only [Option.some.injEq, Prod.mk.injEq] at h
 obtain ⟨rfl, rfl, rfl, rfl⟩ := h
 have E0 := Aside0.mk e0
 have E1 := Aside0.mk e1
 have E2 := Aside0.mk e2
 obtain ⟨A0, c0, rfl⟩ := Kd.R_slice ho0
 obtain ⟨A1, c1, rfl⟩ := Kd.R_slice ho1
 obtain ⟨A2, c2, rfl⟩ := Kd.S_slice ho2
 have X0 := Aside0.mk (Kd.R_mono (ok' := fun k => P0 k ∧ k < w.heap.size) (Kd.R_bound ho0) (fun k hk => ⟨hk.1, hk.2.2.1⟩))
 have X1 := Aside0.mk (Kd.R_mono (ok' := fun k => P1 k ∧ k < w.heap.size) (Kd.R_bound ho1) (fun k hk => ⟨hk.1, hk.2.2.1⟩))
 have X2 := Aside0.mk (Kd.S_mono (ok' := fun k => P2 k ∧ k < w.heap.size) (Kd.S_bound ho2) (fun k hk => ⟨hk.1, hk.2.2.1⟩))
 have Y0 := Aside0.mk X0.out.1
 have Y1 := Aside0.mk X1.out.1
 have H01 := Aside0.mk h01
 have H02 := Aside0.mk h02
 have H12 := Aside0.mk h12
 have HB := Aside0.mk hB
 clear e0 e1 e2 ho0 ho1 ho2 h01 h02 h12 hB
 go_enter Tryd.func42, Tryd.ntmps42
 go_wp2_with (first
  | ((with_reducible refine gate_dst (N := 2) rfl ?_); refine box_event rfl rfl (cs := #[.slice A0 l0.length c0, .slice A1 l1.length c1, .slice A2 l2.length c2]) (t := 52) (by first | (go_simp; done) | (go_simp; rfl)) ?_; intro g1 hg w1 hbox hb; have GE := Aside0.mk hg; have BK := Aside0.mk hbox; have HK := Aside0.mk (Kept.of_below hb (fun k => P0 k ∨ P1 k ∨ P2 k)); have n0_ := Aside0.mk (Kd.R_below X0.out hb); have n1_ := Aside0.mk (Kd.R_below X1.out hb); have n2_ := Aside0.mk (Kd.S_below X2.out hb); clear X0 X1 X2; have X0 := n0_; have X1 := n1_; have X2 := n2_; clear n0_ n1_ n2_; replace HB := Aside0.mk (below_weaken HB.out (HB.out.size) hb); have b0 : w1.cell? ⟨g1, 0, none⟩ = some (.slice A0 l0.length c0) := (blk_cell BK.out 0).trans rfl; clear hg hbox hb)
  | (go_at_call 91; refine (laws_markInt64S.calls k _ _ l0 a1 q0 n0 w0 _ HB.out X0.out E0.out).mono ?_; rintro e w3 ⟨rfl, hr, hb, hk⟩; have n0_ := Aside0.mk (Kd.R_reok (ok := fun k => P0 k ∧ k < w.heap.size) rfl hr Y0.out); have n1_ := Aside0.mk (Kd.R_kept X1.out hk (fun k h1 h0 => H01.out k h0.1 h1.1)); have n2_ := Aside0.mk (Kd.S_kept X2.out hk (fun k h1 h0 => H02.out k h0.1 h1.1)); have n3_ := Aside0.mk (blk_kept BK.out hk (fun h0 => by have := GE.out; have := h0.2; omega)); have n4_ := Aside0.mk (HK.out.then_ hk (fun k h0 => .inl (.inl h0.1))); clear X0 X1 X2 BK HK HB b0; have X0 := n0_; have X1 := n1_; have X2 := n2_; have BK := n3_; have HK := n4_; have HB := Aside0.mk hb; clear n0_ n1_ n2_ n3_ n4_ hr hb hk; have b1 : w3.cell? ⟨g1, 1, none⟩ = some (.slice A1 l1.length c1) := (blk_cell BK.out 1).trans rfl)
  | (go_at_call 92; refine (laws_markBoolS.calls k _ _ l1 q0 q1 n1 w0 _ HB.out X1.out E1.out).mono ?_; rintro e w4 ⟨rfl, hr, hb, hk⟩; have n0_ := Aside0.mk (Kd.R_kept X0.out hk (fun k h0 h1 => H01.out k h0.1 h1.1)); have n1_ := Aside0.mk (Kd.R_reok (ok := fun k => P1 k ∧ k < w.heap.size) rfl hr Y1.out); have n2_ := Aside0.mk (Kd.S_kept X2.out hk (fun k h1 h0 => H12.out k h0.1 h1.1)); have n3_ := Aside0.mk (blk_kept BK.out hk (fun h0 => by have := GE.out; have := h0.2; omega)); have n4_ := Aside0.mk (HK.out.then_ hk (fun k h0 => .inl (.inr (.inl h0.1)))); clear X0 X1 X2 BK HK HB b1; have X0 := n0_; have X1 := n1_; have X2 := n2_; have BK := n3_; have HK := n4_; have HB := Aside0.mk hb; clear n0_ n1_ n2_ n3_ n4_ hr hb hk; have b2 : w4.cell? ⟨g1, 2, none⟩ = some (.slice A2 l2.length c2) := (blk_cell BK.out 2).trans rfl)
  | (go_at_call 93; refine (laws_markInt64SS.calls k _ _ l2 q1 q2 n2 w0 _ HB.out X2.out E2.out).mono ?_; rintro e w5 ⟨rfl, hr, hb, hk⟩; have n0_ := Aside0.mk (Kd.R_kept X0.out hk (fun k h0 h1 => H02.out k h0.1 h1.1)); have n1_ := Aside0.mk (Kd.R_kept X1.out hk (fun k h0 h1 => H12.out k h0.1 h1.1)); have n2_ := Aside0.mk hr; have n4_ := Aside0.mk (HK.out.then_ hk (fun k h0 => .inl (.inr (.inr h0.1)))); clear X0 X1 X2 BK HK HB b2; have X0 := n0_; have X1 := n1_; have X2 := n2_; have HK := n4_; have HB := Aside0.mk hb; clear n0_ n1_ n2_ n4_ hr hb hk))
 go_ret
 exact ⟨rfl, Kd.R_mono X0.out (fun _ h => h.1), Kd.R_mono X1.out (fun _ h => h.1), Kd.S_mono X2.out (fun _ h => h.1), HB.out, HK.out⟩

end Go.Proofs.YtcomagipdbdglaaDoor.Q
