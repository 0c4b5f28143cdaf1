-- Contracts of the program's functions, each with the plain function that it computes.
import Derived.Test.YtcomagipdbdglaaDoorQx0
import Derived.Test.YtcomagipdbdglaaDoorQx4
import Derived.Test.YtcomagipdbdglaaDoorQx8
import Derived.Test.YtcomagipdbdglaaDoorQx12
import Derived.Test.YtcomagipdbdglaaDoorQx16
import Derived.Test.YtcomagipdbdglaaDoorQx22
import Derived.Test.YtcomagipdbdglaaDoorQx31
import Derived.Test.YtcomagipdbdglaaDoorQx35
import Derived.Test.YtcomagipdbdglaaDoorQx39
import Derived.Test.YtcomagipdbdglaaDoorQx43
namespace Go.Proofs.YtcomagipdbdglaaDoor.Q
open Go.RowKit Go.Proofs.YtcomagipdbdglaaDoorW.PrintWords Go.Proofs.YtcomagipdbdglaaDoorW.PrintLast Go.Proofs.YtcomagipdbdglaaDoorW.PrintMore
attribute [local go_sem] max2_int min2_int max_two min_two max_three min_three max_four min_four   -- for this text's walks alone
set_option linter.unusedVariables false
set_option linter.unusedSimpArgs false

/-! ### laws_FnExactStoreNew: function 9 -/
def laws_FnExactStoreNew.fine (k : Nat) (d0 d1 : List ByteArray) (d2 : List S91) (s g : List Int × List Bool × List (List Int)) (md : Int) (ms : Int × List Int × List Bool × List (List Int)) : Prop :=
 laws_eqStore.f k g.1 g.2.1 g.2.2 s.1 s.2.1 s.2.2 = some true ∧ laws_eqDecl.f k d0 d1 d2 d0 d1 d2 = some true ∧ ¬ md < 0 ∧ laws_heldStore.f k ms.2.1 ms.2.2.1 ms.2.2.2 1 = some ms.1 ∧ ¬ ms.1 < 0
instance laws_FnExactStoreNew.fineD (k : Nat) (d0 d1 : List ByteArray) (d2 : List S91) (s g : List Int × List Bool × List (List Int)) (md : Int) (ms : Int × List Int × List Bool × List (List Int)) : Decidable (laws_FnExactStoreNew.fine k d0 d1 d2 s g md ms) := by
 unfold laws_FnExactStoreNew.fine
 infer_instance
def laws_FnExactStoreNew.f (k : Nat) (l0 l1 : List ByteArray) (l2 : List S141) : Option Bool :=
 (laws_szDecl.f k l0 l1 l2 1048576).bind fun t => if t < 0 then some true else
 (laws_toDecl.f k l0 l1 l2).bind fun d => (spec_StoreNew.f k d.1 d.2.1 d.2.2).bind fun s => (impl_StoreNew.f k d.1 d.2.1 d.2.2).bind fun g =>
 (laws_markDecl.f k d.1 d.2.1 d.2.2 1).bind fun md => (laws_markStore.f k g.1 g.2.1 g.2.2 1).bind fun ms => if laws_FnExactStoreNew.fine k d.1 d.2.1 d.2.2 s g md.1 ms then some true else none
section
variable {P : Program} {ops : Array Oper} {rest : List Oper} {o1 o2 : Oper} {a : Act} {Q : Exit → Act → World → Prop}
/-- A struct of three cells, made and filled. -/
theorem laws_FnExactStoreNew.new_box {W : World} (h1 : o1.guard = none) (h2 : o2.guard = none) {N : Tmp} (d1 : o1.dst = some N) (d2 : o2.dst = none) {z0 z1 z2 x0 x1 x2 : Value} {t : TypeId} {p : Tmp} {v : Operand} (ho : o2.op = .store t (.tmp p) v)
  (r1 : (execOp a.eval o1).run P W = .ok (.value (.pointer (some ⟨W.heap.size, 0, none⟩))) (W.alloc (.cells #[z0, z1, z2] t (0, 0))))
  (r2 : ∀ g w1, w1.cell? ⟨g, 0, none⟩ = some z0 → w1.cell? ⟨g, 1, none⟩ = some z1 → w1.cell? ⟨g, 2, none⟩ = some z2 → w1.frozen? ⟨g, 0, none⟩ = false → w1.frozen? ⟨g, 1, none⟩ = false → w1.frozen? ⟨g, 2, none⟩ = false →
   (execOp (a.put (some N) (.pointer (some ⟨g, 0, none⟩))).eval o2).run P w1 = .ok .skip (((w1.setCell ⟨g, 0, none⟩ x0).setCell ⟨g, 1, none⟩ x1).setCell ⟨g, 2, none⟩ x2))
  (h : ∀ g w2, w2.heap[g]? = some (.cells #[x0, x1, x2] t (0, 0)) → Below W.heap.size W w2 → wpList P ops Q rest (a.put (some N) (.pointer (some ⟨g, 0, none⟩))) w2) : wpList P ops Q (o1 :: o2 :: rest) a W := by
 refine box_event h1 d1 r1 (fun g hg w1 hbox hb => ?_)
 rw [d1]
 refine store_event h2 ho d2 (r2 g w1 ((blk_cell hbox 0).trans rfl) ((blk_cell hbox 1).trans rfl) ((blk_cell hbox 2).trans rfl) (blk_frozen hbox 0) (blk_frozen hbox 1) (blk_frozen hbox 2)) (fun w' e => ?_)
 subst e
 exact h g _ ((blk_set (blk_set (blk_set hbox 0 x0) 1 x1) 2 x2).trans rfl) (((hb.setCell (Nat.le_of_eq hg.symm) _).setCell (Nat.le_of_eq hg.symm) _).setCell (Nat.le_of_eq hg.symm) _)
end
section
variable {α : Type} {d : Kd α} {e base : Nat} {ok : Nat → Prop} {W : World} {v : Value} {xs : List α}
theorem laws_FnExactStoreNew.R_old (h : d.R e W base ok v xs) : d.R e W base (fun k => ok k ∧ k < W.heap.size) v xs := Kd.R_mono (Kd.R_bound h) (fun _ hk => ⟨hk.1, hk.2.2.1⟩)
theorem laws_FnExactStoreNew.S_old (h : Kd.S d e W base ok v xs) : Kd.S d e W base (fun k => ok k ∧ k < W.heap.size) v xs := Kd.S_mono (Kd.S_bound h) (fun _ hk => ⟨hk.1, hk.2.2.1⟩)
theorem laws_FnExactStoreNew.R_new {b : Nat} (h : d.R e W base ok v xs) (hb : b ≤ base) : d.R e W b (fun k => base ≤ k ∧ ok k) v xs := Kd.R_lower (Kd.R_mono (Kd.R_bound h) (fun _ hk => ⟨hk.2.1, hk.1⟩)) hb
theorem laws_FnExactStoreNew.S_new {b : Nat} (h : Kd.S d e W base ok v xs) (hb : b ≤ base) : Kd.S d e W b (fun k => base ≤ k ∧ ok k) v xs := Kd.S_lower (Kd.S_mono (Kd.S_bound h) (fun _ hk => ⟨hk.2.1, hk.1⟩)) hb
end
set_option maxHeartbeats 40000000 in
set_option maxRecDepth 100000 in
theorem laws_FnExactStoreNew.calls (k : Nat) (A0_0 : Option Addr) (c0_0 : Nat) (l0_0 : List ByteArray) (A0_1 : Option Addr) (c0_1 : Nat) (l0_1 : List ByteArray) (A0_2 : Option Addr) (c0_2 : Nat) (l0_2 : List (S141)) (w : World) (hr0_0 : Kd.C Kd.string w A0_0 l0_0.length l0_0) (hc0_0 : l0_0.length ≤ c0_0) (hr0_1 : Kd.C Kd.string w A0_1 l0_1.length l0_1) (hc0_1 : l0_1.length ≤ c0_1) (hr0_2 : Kd.C k141 w A0_2 l0_2.length l0_2) (hc0_2 : l0_2.length ≤ c0_2) (h : laws_FnExactStoreNew.f k l0_0 l0_1 l0_2 = some true) (hTAB : TabW w := by first | exact HTAB.out | exact TabW.drewN HTAB.out _ | exact TabW.below HTAB.out (by repeat (first | (with_reducible first | exact HB.out | apply below_alloc | apply pw_below_drewN | apply below_drew1 | refine below_set ?_ (Aside0.out (by assumption))) | exact HB.out))) :
  Calls Tryd.prog 9 #[.agg #[.slice A0_0 l0_0.length c0_0, .slice A0_1 l0_1.length c0_1, .slice A0_2 l0_2.length c0_2]] w fun e w' => e = .returned (.bool true) ∧ Below w.heap.size w w' := by
 have HTAB := Aside0.mk hTAB
 clear hTAB
 have HR0 := Aside0.mk hr0_0
 have HR1 := Aside0.mk hr0_1
 have HR2 := Aside0.mk hr0_2
 have HC0 := Aside0.mk hc0_0
 have HC1 := Aside0.mk hc0_1
 have HC2 := Aside0.mk hc0_2
 have HB := Aside0.mk (Below.refl w.heap.size w)
 clear hr0_0 hr0_1 hr0_2 hc0_0 hc0_1 hc0_2
 unfold laws_FnExactStoreNew.f at h
 obtain ⟨t, e1, h⟩ := Option.bind_eq_some_iff.mp h
 have E1 := Aside0.mk e1
 clear e1
 by_cases ht : t < 0
 case pos =>
  rw [if_pos ht] at h
  have ht2 : decide (t < 0) = true := decide_eq_true ht
  clear ht h
  go_enter Tryd.func9, Tryd.ntmps9
  go_wp2_with (first
   | ((with_reducible refine gate_dst (N := 1) rfl ?_); refine box_event rfl rfl (cs := #[.slice A0_0 l0_0.length c0_0, .slice A0_1 l0_1.length c0_1, .slice A0_2 l0_2.length c0_2]) (t := 25) (by first | (go_simp; done) | (go_simp; rfl)) ?_; intro g1 hg W1 hbox hb; have BK1 := Aside0.mk hbox; replace HB := Aside0.mk (below_step HB.out hb); have yg10 : W1.cell? ⟨g1, 0, none⟩ = some (.slice A0_0 l0_0.length c0_0) := (blk_cell BK1.out 0).trans rfl; have yg11 : W1.cell? ⟨g1, 1, none⟩ = some (.slice A0_1 l0_1.length c0_1) := (blk_cell BK1.out 1).trans rfl; have yg12 : W1.cell? ⟨g1, 2, none⟩ = some (.slice A0_2 l0_2.length c0_2) := (blk_cell BK1.out 2).trans rfl; clear hg hbox hb)
   | ((with_reducible refine gate_callee (f := 12) rfl ?_); refine goesL_ (some 13) rfl rfl Tryd.func12 (by kernel_rfl) rfl #[.agg #[.slice A0_0 l0_0.length c0_0, .slice A0_1 l0_1.length c0_1, .slice A0_2 l0_2.length c0_2], .int .i64 1048576] rfl (by (try simp only [List.map_toArray, List.map_cons, List.map_nil]); first | done | rfl | (simp only [List.length_drop, List.length_take]; rfl)) ?_; refine (laws_szDecl.calls k _ _ l0_0 _ _ l0_1 _ _ l0_2 1048576 t _ (Kd.C_below HR0.out HB.out) HC0.out (Kd.C_below HR1.out HB.out) HC1.out (Kd.C_below HR2.out HB.out) HC2.out E1.out).mono ?_; rintro e W2 ⟨rfl, hb⟩; refine ⟨_, rfl, ?_⟩; clear yg10 yg11 yg12; have n0_ := Aside0.mk (blk_below BK1.out hb); clear BK1; have BK1 := n0_; clear n0_; replace HB := Aside0.mk (below_step HB.out hb); clear hb; have yg10 : W2.cell? ⟨g1, 0, none⟩ = some (.slice A0_0 l0_0.length c0_0) := (blk_cell BK1.out 0).trans rfl; have yg11 : W2.cell? ⟨g1, 1, none⟩ = some (.slice A0_1 l0_1.length c0_1) := (blk_cell BK1.out 1).trans rfl; have yg12 : W2.cell? ⟨g1, 2, none⟩ = some (.slice A0_2 l0_2.length c0_2) := (blk_cell BK1.out 2).trans rfl))
  go_ret
  exact ⟨rfl, HB.out⟩
 case neg =>
  rw [if_neg ht] at h
  have ht2 : decide (t < 0) = false := decide_eq_false ht
  obtain ⟨⟨d0, d1, d2⟩, e2, h⟩ := Option.bind_eq_some_iff.mp h
  obtain ⟨⟨s0, s1, s2⟩, e3, h⟩ := Option.bind_eq_some_iff.mp h
  obtain ⟨⟨g0, g1_, g2_⟩, e4, h⟩ := Option.bind_eq_some_iff.mp h
  obtain ⟨⟨md, m0, m1, m2⟩, e5, h⟩ := Option.bind_eq_some_iff.mp h
  obtain ⟨⟨ms, n0, n1, n2⟩, e6, h⟩ := Option.bind_eq_some_iff.mp h
  split at h
  case isFalse => exact absurd h (by simp)
  rename_i hf
  obtain ⟨f1, f2, f3, f4, f5⟩ := hf
  clear h ht
  simp only at e2 e3 e4 e5 e6 f1 f2 f3 f4 f5
  have E2 := Aside0.mk e2
  have E3 := Aside0.mk e3
  have E4 := Aside0.mk e4
  have E5 := Aside0.mk e5
  have E6 := Aside0.mk e6
  have F1 := Aside0.mk f1
  have F2 := Aside0.mk f2
  have F4 := Aside0.mk f4
  have md2 : decide (md < 0) = false := decide_eq_false f3
  have ms2 : decide (ms < 0) = false := decide_eq_false f5
  clear e2 e3 e4 e5 e6 f1 f2 f3 f4 f5
  go_enter Tryd.func9, Tryd.ntmps9
  go_wp2_with (first
   | ((with_reducible refine gate_dst (N := 1) rfl ?_); refine box_event rfl rfl (cs := #[.slice A0_0 l0_0.length c0_0, .slice A0_1 l0_1.length c0_1, .slice A0_2 l0_2.length c0_2]) (t := 25) (by first | (go_simp; done) | (go_simp; rfl)) ?_; intro g1 hg W1 hbox hb; have BK1 := Aside0.mk hbox; replace HB := Aside0.mk (below_step HB.out hb); have yg10 : W1.cell? ⟨g1, 0, none⟩ = some (.slice A0_0 l0_0.length c0_0) := (blk_cell BK1.out 0).trans rfl; have yg11 : W1.cell? ⟨g1, 1, none⟩ = some (.slice A0_1 l0_1.length c0_1) := (blk_cell BK1.out 1).trans rfl; have yg12 : W1.cell? ⟨g1, 2, none⟩ = some (.slice A0_2 l0_2.length c0_2) := (blk_cell BK1.out 2).trans rfl; clear hg hbox hb)
   | ((with_reducible refine gate_callee (f := 12) rfl ?_); refine goesL_ (some 13) rfl rfl Tryd.func12 (by kernel_rfl) rfl #[.agg #[.slice A0_0 l0_0.length c0_0, .slice A0_1 l0_1.length c0_1, .slice A0_2 l0_2.length c0_2], .int .i64 1048576] rfl (by (try simp only [List.map_toArray, List.map_cons, List.map_nil]); first | done | rfl | (simp only [List.length_drop, List.length_take]; rfl)) ?_; refine (laws_szDecl.calls k _ _ l0_0 _ _ l0_1 _ _ l0_2 1048576 t _ (Kd.C_below HR0.out HB.out) HC0.out (Kd.C_below HR1.out HB.out) HC1.out (Kd.C_below HR2.out HB.out) HC2.out E1.out).mono ?_; rintro e W2 ⟨rfl, hb⟩; refine ⟨_, rfl, ?_⟩; clear yg10 yg11 yg12; have n0_ := Aside0.mk (blk_below BK1.out hb); clear BK1; have BK1 := n0_; clear n0_; replace HB := Aside0.mk (below_step HB.out hb); clear hb; have yg10 : W2.cell? ⟨g1, 0, none⟩ = some (.slice A0_0 l0_0.length c0_0) := (blk_cell BK1.out 0).trans rfl; have yg11 : W2.cell? ⟨g1, 1, none⟩ = some (.slice A0_1 l0_1.length c0_1) := (blk_cell BK1.out 1).trans rfl; have yg12 : W2.cell? ⟨g1, 2, none⟩ = some (.slice A0_2 l0_2.length c0_2) := (blk_cell BK1.out 2).trans rfl)
   | ((with_reducible refine gate_callee (f := 14) rfl ?_); refine goesL_ (some 17) rfl rfl Tryd.func14 (by kernel_rfl) rfl #[.agg #[.slice A0_0 l0_0.length c0_0, .slice A0_1 l0_1.length c0_1, .slice A0_2 l0_2.length c0_2]] rfl (by (try simp only [List.map_toArray, List.map_cons, List.map_nil]); first | done | rfl | (simp only [List.length_drop, List.length_take]; rfl)) ?_; refine (laws_toDecl.calls k _ _ l0_0 _ _ l0_1 _ _ l0_2 d0 d1 d2 _ (Kd.C_below HR0.out HB.out) HC0.out (Kd.C_below HR1.out HB.out) HC1.out (Kd.C_below HR2.out HB.out) HC2.out E2.out).mono ?_; rintro e W3 ⟨up0, up1, up2, rfl, r0_, r1_, r2_, hb⟩; refine ⟨_, rfl, ?_⟩; obtain ⟨Ap0, cp0, rfl⟩ := Kd.R_slice r0_; obtain ⟨Ap1, cp1, rfl⟩ := Kd.R_slice r1_; obtain ⟨Ap2, cp2, rfl⟩ := Kd.R_slice r2_; have Xp0 := Aside0.mk (laws_FnExactStoreNew.R_new r0_ (below_size HB.out)); have Xp1 := Aside0.mk (laws_FnExactStoreNew.R_new r1_ (below_size HB.out)); have Xp2 := Aside0.mk (laws_FnExactStoreNew.R_new r2_ (below_size HB.out)); clear yg10 yg11 yg12; have n0_ := Aside0.mk (blk_below BK1.out hb); clear BK1; have BK1 := n0_; clear n0_; replace HB := Aside0.mk (below_step HB.out hb); clear r0_ r1_ r2_ hb)
   | ((with_reducible refine gate_callee (f := 39) rfl ?_); refine goesL_ (some 18) rfl rfl Tryd.func39 (by kernel_rfl) rfl #[.agg #[.slice Ap0 d0.length cp0, .slice Ap1 d1.length cp1, .slice Ap2 d2.length cp2]] rfl (by (try simp only [List.map_toArray, List.map_cons, List.map_nil]); first | done | rfl | (simp only [List.length_drop, List.length_take]; rfl)) ?_; refine (spec_StoreNew.calls k _ _ d0 _ _ d1 _ _ d2 s0 s1 s2 _ (Kd.R_reads' Xp0.out).2.2 (Kd.R_reads' Xp0.out).2.1 (Kd.R_reads' Xp1.out).2.2 (Kd.R_reads' Xp1.out).2.1 (Kd.R_reads' Xp2.out).2.2 (Kd.R_reads' Xp2.out).2.1 E3.out).mono ?_; rintro e W4 ⟨us0, us1, us2, rfl, r0_, r1_, r2_, hb⟩; refine ⟨_, rfl, ?_⟩; obtain ⟨As0, cs0, rfl⟩ := Kd.R_slice r0_; obtain ⟨As1, cs1, rfl⟩ := Kd.R_slice r1_; obtain ⟨As2, cs2, rfl⟩ := Kd.S_slice r2_; have Xs0 := Aside0.mk (laws_FnExactStoreNew.R_new r0_ (below_size HB.out)); have Xs1 := Aside0.mk (laws_FnExactStoreNew.R_new r1_ (below_size HB.out)); have Xs2 := Aside0.mk (laws_FnExactStoreNew.S_new r2_ (below_size HB.out)); clear Xp0 Xp1 Xp2; have n0_ := Aside0.mk (blk_below BK1.out hb); clear BK1; have BK1 := n0_; clear n0_; replace HB := Aside0.mk (below_step HB.out hb); clear r0_ r1_ r2_ hb)
   | ((with_reducible refine gate_dst (N := 4) rfl ?_); refine laws_FnExactStoreNew.new_box rfl rfl rfl rfl rfl (x0 := .slice As0 s0.length cs0) (x1 := .slice As1 s1.length cs1) (x2 := .slice As2 s2.length cs2) (t := 52) (by first | (go_simp; done) | (go_simp; rfl)) (by intro g_ w_ q0 q1 q2 q3 q4 q5; first | (go_simp; done) | (go_simp; rfl)) ?_; intro g4 W5 hbox hb; have n0_ := Aside0.mk (blk_below BK1.out hb); have n1_ := Aside0.mk (Kd.R_below Xs0.out hb); have n2_ := Aside0.mk (Kd.R_below Xs1.out hb); have n3_ := Aside0.mk (Kd.S_below Xs2.out hb); clear BK1; clear Xs0; clear Xs1; clear Xs2; have BK1 := n0_; have Xs0 := n1_; have Xs1 := n2_; have Xs2 := n3_; clear n0_ n1_ n2_ n3_; replace HB := Aside0.mk (below_step HB.out hb); have BK4 := Aside0.mk hbox; clear hbox hb; have yg40 : W5.cell? ⟨g4, 0, none⟩ = some (.slice As0 s0.length cs0) := (blk_cell BK4.out 0).trans rfl; have yg41 : W5.cell? ⟨g4, 1, none⟩ = some (.slice As1 s1.length cs1) := (blk_cell BK4.out 1).trans rfl; have yg42 : W5.cell? ⟨g4, 2, none⟩ = some (.slice As2 s2.length cs2) := (blk_cell BK4.out 2).trans rfl; have yg10 : W5.cell? ⟨g1, 0, none⟩ = some (.slice A0_0 l0_0.length c0_0) := (blk_cell BK1.out 0).trans rfl; have yg11 : W5.cell? ⟨g1, 1, none⟩ = some (.slice A0_1 l0_1.length c0_1) := (blk_cell BK1.out 1).trans rfl; have yg12 : W5.cell? ⟨g1, 2, none⟩ = some (.slice A0_2 l0_2.length c0_2) := (blk_cell BK1.out 2).trans rfl)
   | ((with_reducible refine gate_callee (f := 14) rfl ?_); refine goesL_ (some 20) rfl rfl Tryd.func14 (by kernel_rfl) rfl #[.agg #[.slice A0_0 l0_0.length c0_0, .slice A0_1 l0_1.length c0_1, .slice A0_2 l0_2.length c0_2]] rfl (by (try simp only [List.map_toArray, List.map_cons, List.map_nil]); first | done | rfl | (simp only [List.length_drop, List.length_take]; rfl)) ?_; refine (laws_toDecl.calls k _ _ l0_0 _ _ l0_1 _ _ l0_2 d0 d1 d2 _ (Kd.C_below HR0.out HB.out) HC0.out (Kd.C_below HR1.out HB.out) HC1.out (Kd.C_below HR2.out HB.out) HC2.out E2.out).mono ?_; rintro e W6 ⟨ux0, ux1, ux2, rfl, r0_, r1_, r2_, hb⟩; refine ⟨_, rfl, ?_⟩; obtain ⟨Ax0, cx0, rfl⟩ := Kd.R_slice r0_; obtain ⟨Ax1, cx1, rfl⟩ := Kd.R_slice r1_; obtain ⟨Ax2, cx2, rfl⟩ := Kd.R_slice r2_; have Xx0 := Aside0.mk (laws_FnExactStoreNew.R_new r0_ (below_size HB.out)); have Xx1 := Aside0.mk (laws_FnExactStoreNew.R_new r1_ (below_size HB.out)); have Xx2 := Aside0.mk (laws_FnExactStoreNew.R_new r2_ (below_size HB.out)); clear yg10 yg11 yg12; clear yg40 yg41 yg42; have o0_ := Aside0.mk (laws_FnExactStoreNew.R_old Xs0.out); have o1_ := Aside0.mk (laws_FnExactStoreNew.R_old Xs1.out); have o2_ := Aside0.mk (laws_FnExactStoreNew.S_old Xs2.out); clear Xs0 Xs1 Xs2; have Xs0 := o0_; have Xs1 := o1_; have Xs2 := o2_; clear o0_ o1_ o2_; have n0_ := Aside0.mk (blk_below BK1.out hb); have n1_ := Aside0.mk (Kd.R_below Xs0.out hb); have n2_ := Aside0.mk (Kd.R_below Xs1.out hb); have n3_ := Aside0.mk (Kd.S_below Xs2.out hb); have n4_ := Aside0.mk (blk_below BK4.out hb); clear BK1; clear Xs0; clear Xs1; clear Xs2; clear BK4; have BK1 := n0_; have Xs0 := n1_; have Xs1 := n2_; have Xs2 := n3_; have BK4 := n4_; clear n0_ n1_ n2_ n3_ n4_; replace HB := Aside0.mk (below_step HB.out hb); clear r0_ r1_ r2_ hb)
   | ((with_reducible refine gate_dst (N := 5) rfl ?_); refine laws_FnExactStoreNew.new_box rfl rfl rfl rfl rfl (x0 := .slice Ax0 d0.length cx0) (x1 := .slice Ax1 d1.length cx1) (x2 := .slice Ax2 d2.length cx2) (t := 30) (by first | (go_simp; done) | (go_simp; rfl)) (by intro g_ w_ q0 q1 q2 q3 q4 q5; first | (go_simp; done) | (go_simp; rfl)) ?_; intro g5 W7 hbox hb; have n0_ := Aside0.mk (blk_below BK1.out hb); have n1_ := Aside0.mk (Kd.R_below Xs0.out hb); have n2_ := Aside0.mk (Kd.R_below Xs1.out hb); have n3_ := Aside0.mk (Kd.S_below Xs2.out hb); have n4_ := Aside0.mk (blk_below BK4.out hb); have n5_ := Aside0.mk (Kd.R_below Xx0.out hb); have n6_ := Aside0.mk (Kd.R_below Xx1.out hb); have n7_ := Aside0.mk (Kd.R_below Xx2.out hb); clear BK1; clear Xs0; clear Xs1; clear Xs2; clear BK4; clear Xx0; clear Xx1; clear Xx2; have BK1 := n0_; have Xs0 := n1_; have Xs1 := n2_; have Xs2 := n3_; have BK4 := n4_; have Xx0 := n5_; have Xx1 := n6_; have Xx2 := n7_; clear n0_ n1_ n2_ n3_ n4_ n5_ n6_ n7_; replace HB := Aside0.mk (below_step HB.out hb); have BK5 := Aside0.mk hbox; clear hbox hb; have yg50 : W7.cell? ⟨g5, 0, none⟩ = some (.slice Ax0 d0.length cx0) := (blk_cell BK5.out 0).trans rfl; have yg51 : W7.cell? ⟨g5, 1, none⟩ = some (.slice Ax1 d1.length cx1) := (blk_cell BK5.out 1).trans rfl; have yg52 : W7.cell? ⟨g5, 2, none⟩ = some (.slice Ax2 d2.length cx2) := (blk_cell BK5.out 2).trans rfl)
   | ((with_reducible refine gate_callee (f := 40) rfl ?_); refine goesL_ (some 22) rfl rfl Tryd.func40 (by kernel_rfl) rfl #[.agg #[.slice Ax0 d0.length cx0, .slice Ax1 d1.length cx1, .slice Ax2 d2.length cx2]] rfl (by (try simp only [List.map_toArray, List.map_cons, List.map_nil]); first | done | rfl | (simp only [List.length_drop, List.length_take]; rfl)) ?_; refine (impl_StoreNew.calls k _ _ d0 _ _ d1 _ _ d2 g0 g1_ g2_ _ (Kd.R_reads' Xx0.out).2.2 (Kd.R_reads' Xx0.out).2.1 (Kd.R_reads' Xx1.out).2.2 (Kd.R_reads' Xx1.out).2.1 (Kd.R_reads' Xx2.out).2.2 (Kd.R_reads' Xx2.out).2.1 E4.out).mono ?_; rintro e W8 ⟨uy0, uy1, uy2, rfl, r0_, r1_, r2_, hb⟩; refine ⟨_, rfl, ?_⟩; obtain ⟨Ay0, cy0, rfl⟩ := Kd.R_slice r0_; obtain ⟨Ay1, cy1, rfl⟩ := Kd.R_slice r1_; obtain ⟨Ay2, cy2, rfl⟩ := Kd.S_slice r2_; have Xy0 := Aside0.mk (laws_FnExactStoreNew.R_new r0_ (below_size HB.out)); have Xy1 := Aside0.mk (laws_FnExactStoreNew.R_new r1_ (below_size HB.out)); have Xy2 := Aside0.mk (laws_FnExactStoreNew.S_new r2_ (below_size HB.out)); clear yg50 yg51 yg52; have o0_ := Aside0.mk (laws_FnExactStoreNew.R_old Xs0.out); have o1_ := Aside0.mk (laws_FnExactStoreNew.R_old Xs1.out); have o2_ := Aside0.mk (laws_FnExactStoreNew.S_old Xs2.out); clear Xs0 Xs1 Xs2; have Xs0 := o0_; have Xs1 := o1_; have Xs2 := o2_; clear o0_ o1_ o2_; have o0_ := Aside0.mk (laws_FnExactStoreNew.R_old Xx0.out); have o1_ := Aside0.mk (laws_FnExactStoreNew.R_old Xx1.out); have o2_ := Aside0.mk (laws_FnExactStoreNew.R_old Xx2.out); clear Xx0 Xx1 Xx2; have Xx0 := o0_; have Xx1 := o1_; have Xx2 := o2_; clear o0_ o1_ o2_; have n0_ := Aside0.mk (blk_below BK1.out hb); have n1_ := Aside0.mk (Kd.R_below Xs0.out hb); have n2_ := Aside0.mk (Kd.R_below Xs1.out hb); have n3_ := Aside0.mk (Kd.S_below Xs2.out hb); have n4_ := Aside0.mk (blk_below BK4.out hb); have n5_ := Aside0.mk (Kd.R_below Xx0.out hb); have n6_ := Aside0.mk (Kd.R_below Xx1.out hb); have n7_ := Aside0.mk (Kd.R_below Xx2.out hb); have n8_ := Aside0.mk (blk_below BK5.out hb); clear BK1; clear Xs0; clear Xs1; clear Xs2; clear BK4; clear Xx0; clear Xx1; clear Xx2; clear BK5; have BK1 := n0_; have Xs0 := n1_; have Xs1 := n2_; have Xs2 := n3_; have BK4 := n4_; have Xx0 := n5_; have Xx1 := n6_; have Xx2 := n7_; have BK5 := n8_; clear n0_ n1_ n2_ n3_ n4_ n5_ n6_ n7_ n8_; replace HB := Aside0.mk (below_step HB.out hb); clear r0_ r1_ r2_ hb)
   | ((with_reducible refine gate_dst (N := 6) rfl ?_); refine laws_FnExactStoreNew.new_box rfl rfl rfl rfl rfl (x0 := .slice Ay0 g0.length cy0) (x1 := .slice Ay1 g1_.length cy1) (x2 := .slice Ay2 g2_.length cy2) (t := 52) (by first | (go_simp; done) | (go_simp; rfl)) (by intro g_ w_ q0 q1 q2 q3 q4 q5; first | (go_simp; done) | (go_simp; rfl)) ?_; intro g6 W9 hbox hb; have n0_ := Aside0.mk (blk_below BK1.out hb); have n1_ := Aside0.mk (Kd.R_below Xs0.out hb); have n2_ := Aside0.mk (Kd.R_below Xs1.out hb); have n3_ := Aside0.mk (Kd.S_below Xs2.out hb); have n4_ := Aside0.mk (blk_below BK4.out hb); have n5_ := Aside0.mk (Kd.R_below Xx0.out hb); have n6_ := Aside0.mk (Kd.R_below Xx1.out hb); have n7_ := Aside0.mk (Kd.R_below Xx2.out hb); have n8_ := Aside0.mk (blk_below BK5.out hb); have n9_ := Aside0.mk (Kd.R_below Xy0.out hb); have n10_ := Aside0.mk (Kd.R_below Xy1.out hb); have n11_ := Aside0.mk (Kd.S_below Xy2.out hb); clear BK1; clear Xs0; clear Xs1; clear Xs2; clear BK4; clear Xx0; clear Xx1; clear Xx2; clear BK5; clear Xy0; clear Xy1; clear Xy2; have BK1 := n0_; have Xs0 := n1_; have Xs1 := n2_; have Xs2 := n3_; have BK4 := n4_; have Xx0 := n5_; have Xx1 := n6_; have Xx2 := n7_; have BK5 := n8_; have Xy0 := n9_; have Xy1 := n10_; have Xy2 := n11_; clear n0_ n1_ n2_ n3_ n4_ n5_ n6_ n7_ n8_ n9_ n10_ n11_; replace HB := Aside0.mk (below_step HB.out hb); have BK6 := Aside0.mk hbox; clear hbox hb; have yg60 : W9.cell? ⟨g6, 0, none⟩ = some (.slice Ay0 g0.length cy0) := (blk_cell BK6.out 0).trans rfl; have yg61 : W9.cell? ⟨g6, 1, none⟩ = some (.slice Ay1 g1_.length cy1) := (blk_cell BK6.out 1).trans rfl; have yg62 : W9.cell? ⟨g6, 2, none⟩ = some (.slice Ay2 g2_.length cy2) := (blk_cell BK6.out 2).trans rfl; have yg40 : W9.cell? ⟨g4, 0, none⟩ = some (.slice As0 s0.length cs0) := (blk_cell BK4.out 0).trans rfl; have yg41 : W9.cell? ⟨g4, 1, none⟩ = some (.slice As1 s1.length cs1) := (blk_cell BK4.out 1).trans rfl; have yg42 : W9.cell? ⟨g4, 2, none⟩ = some (.slice As2 s2.length cs2) := (blk_cell BK4.out 2).trans rfl)
   | ((with_reducible refine gate_callee (f := 26) rfl ?_); refine goesL_ (some 25) rfl rfl Tryd.func26 (by kernel_rfl) rfl #[.agg #[.slice Ay0 g0.length cy0, .slice Ay1 g1_.length cy1, .slice Ay2 g2_.length cy2], .agg #[.slice As0 s0.length cs0, .slice As1 s1.length cs1, .slice As2 s2.length cs2]] rfl (by (try simp only [List.map_toArray, List.map_cons, List.map_nil]); first | done | rfl | (simp only [List.length_drop, List.length_take]; rfl)) ?_; refine (laws_eqStore.calls k _ _ g0 _ _ g1_ _ _ g2_ _ _ s0 _ _ s1 _ _ s2 true _ (Kd.R_reads' Xy0.out).2.2 (Kd.R_reads' Xy0.out).2.1 (Kd.R_reads' Xy1.out).2.2 (Kd.R_reads' Xy1.out).2.1 (Kd.S_reads' Xy2.out).2.2 (Kd.S_reads' Xy2.out).2.1 (Kd.R_reads' Xs0.out).2.2 (Kd.R_reads' Xs0.out).2.1 (Kd.R_reads' Xs1.out).2.2 (Kd.R_reads' Xs1.out).2.1 (Kd.S_reads' Xs2.out).2.2 (Kd.S_reads' Xs2.out).2.1 F1.out).mono ?_; rintro e W10 ⟨rfl, hb⟩; refine ⟨_, rfl, ?_⟩; clear yg60 yg61 yg62; clear yg40 yg41 yg42; have n0_ := Aside0.mk (blk_below BK1.out hb); have n1_ := Aside0.mk (Kd.R_below Xs0.out hb); have n2_ := Aside0.mk (Kd.R_below Xs1.out hb); have n3_ := Aside0.mk (Kd.S_below Xs2.out hb); have n4_ := Aside0.mk (blk_below BK4.out hb); have n5_ := Aside0.mk (Kd.R_below Xx0.out hb); have n6_ := Aside0.mk (Kd.R_below Xx1.out hb); have n7_ := Aside0.mk (Kd.R_below Xx2.out hb); have n8_ := Aside0.mk (blk_below BK5.out hb); have n9_ := Aside0.mk (Kd.R_below Xy0.out hb); have n10_ := Aside0.mk (Kd.R_below Xy1.out hb); have n11_ := Aside0.mk (Kd.S_below Xy2.out hb); have n12_ := Aside0.mk (blk_below BK6.out hb); clear BK1; clear Xs0; clear Xs1; clear Xs2; clear BK4; clear Xx0; clear Xx1; clear Xx2; clear BK5; clear Xy0; clear Xy1; clear Xy2; clear BK6; have BK1 := n0_; have Xs0 := n1_; have Xs1 := n2_; have Xs2 := n3_; have BK4 := n4_; have Xx0 := n5_; have Xx1 := n6_; have Xx2 := n7_; have BK5 := n8_; have Xy0 := n9_; have Xy1 := n10_; have Xy2 := n11_; have BK6 := n12_; clear n0_ n1_ n2_ n3_ n4_ n5_ n6_ n7_ n8_ n9_ n10_ n11_ n12_; replace HB := Aside0.mk (below_step HB.out hb); clear hb))
  have hb := below_drew (Below.refl W10.heap.size W10)
  have n0_ := Aside0.mk (blk_below BK1.out hb)
  have n1_ := Aside0.mk (Kd.R_below Xs0.out hb)
  have n2_ := Aside0.mk (Kd.R_below Xs1.out hb)
  have n3_ := Aside0.mk (Kd.S_below Xs2.out hb)
  have n4_ := Aside0.mk (blk_below BK4.out hb)
  have n5_ := Aside0.mk (Kd.R_below Xx0.out hb)
  have n6_ := Aside0.mk (Kd.R_below Xx1.out hb)
  have n7_ := Aside0.mk (Kd.R_below Xx2.out hb)
  have n8_ := Aside0.mk (blk_below BK5.out hb)
  have n9_ := Aside0.mk (Kd.R_below Xy0.out hb)
  have n10_ := Aside0.mk (Kd.R_below Xy1.out hb)
  have n11_ := Aside0.mk (Kd.S_below Xy2.out hb)
  have n12_ := Aside0.mk (blk_below BK6.out hb)
  clear BK1
  clear Xs0
  clear Xs1
  clear Xs2
  clear BK4
  clear Xx0
  clear Xx1
  clear Xx2
  clear BK5
  clear Xy0
  clear Xy1
  clear Xy2
  clear BK6
  have BK1 := n0_
  have Xs0 := n1_
  have Xs1 := n2_
  have Xs2 := n3_
  have BK4 := n4_
  have Xx0 := n5_
  have Xx1 := n6_
  have Xx2 := n7_
  have BK5 := n8_
  have Xy0 := n9_
  have Xy1 := n10_
  have Xy2 := n11_
  have BK6 := n12_
  clear n0_ n1_ n2_ n3_ n4_ n5_ n6_ n7_ n8_ n9_ n10_ n11_ n12_
  replace HB := Aside0.mk (below_step HB.out hb)
  clear hb
  refine start_ (n := 5) (S := (fun w' => w'.cell? ⟨g5, 0, none⟩ = some (.slice Ax0 d0.length cx0) ∧ w'.cell? ⟨g5, 1, none⟩ = some (.slice Ax1 d1.length cx1) ∧ w'.cell? ⟨g5, 2, none⟩ = some (.slice Ax2 d2.length cx2) ∧ w'.cell? ⟨g1, 0, none⟩ = some (.slice A0_0 l0_0.length c0_0) ∧ w'.cell? ⟨g1, 1, none⟩ = some (.slice A0_1 l0_1.length c0_1) ∧ w'.cell? ⟨g1, 2, none⟩ = some (.slice A0_2 l0_2.length c0_2))) (ds := []) #[false, false, false, false, false] (by kernel_rfl) rfl rfl ⟨(blk_cell BK5.out 0).trans rfl, (blk_cell BK5.out 1).trans rfl, (blk_cell BK5.out 2).trans rfl, (blk_cell BK1.out 0).trans rfl, (blk_cell BK1.out 1).trans rfl, (blk_cell BK1.out 2).trans rfl⟩ (fun hHeld => ?_)
  generalize W10.drew = W11 at HB BK1 Xs0 Xs1 Xs2 BK4 Xx0 Xx1 Xx2 BK5 Xy0 Xy1 Xy2 BK6 hHeld ⊢
  refine take_ (i := 0) (N := some 27) (v := ?_) (a' := ?_) #[true, false, false, false, false] rfl rfl (by kernel_rfl) (fun _ _ _ h => h) (Or.inl ⟨by rfl, ?_⟩) hHeld ?_ ?_
  rotate_left
  ·rintro w' ⟨s0_, s1_, s2_, s3_, s4_, s5_⟩
   go_simp
   with_reducible rfl
  rotate_left
  ·simp only [Act.put, List.setIfInBounds_toArray, List.set_cons_zero, List.set_cons_succ, i64_w, i32_w]
   rfl
  refine take_ (i := 1) (N := some 28) (v := ?_) (a' := ?_) #[true, true, false, false, false] rfl rfl (by kernel_rfl) (fun _ _ _ h => h) (Or.inl ⟨by rfl, ?_⟩) hHeld ?_ ?_
  rotate_left
  ·rintro w' ⟨s0_, s1_, s2_, s3_, s4_, s5_⟩
   go_simp
   with_reducible rfl
  rotate_left
  ·simp only [Act.put, List.setIfInBounds_toArray, List.set_cons_zero, List.set_cons_succ, i64_w, i32_w]
   rfl
  refine one_ (i := 2) (N := some 29) #[true, true, true, false, false] rfl rfl (by kernel_rfl) (by decide) (fun K hK => ?_)
  refine goes_ Tryd.func14 (by kernel_rfl) rfl #[.agg #[.slice A0_0 l0_0.length c0_0, .slice A0_1 l0_1.length c0_1, .slice A0_2 l0_2.length c0_2]] (by rfl) rfl rfl (by (try simp only [List.map_toArray, List.map_cons, List.map_nil]); first | done | rfl) ?_
  refine (laws_toDecl.calls k _ _ l0_0 _ _ l0_1 _ _ l0_2 d0 d1 d2 _ (Kd.C_below HR0.out HB.out) HC0.out (Kd.C_below HR1.out HB.out) HC1.out (Kd.C_below HR2.out HB.out) HC2.out E2.out).mono ?_
  rintro e W12 ⟨uz0, uz1, uz2, rfl, r0_, r1_, r2_, hb⟩
  refine ⟨_, rfl, ?_⟩
  obtain ⟨Az0, cz0, rfl⟩ := Kd.R_slice r0_
  obtain ⟨Az1, cz1, rfl⟩ := Kd.R_slice r1_
  obtain ⟨Az2, cz2, rfl⟩ := Kd.R_slice r2_
  have Xz0 := Aside0.mk r0_
  have Xz1 := Aside0.mk r1_
  have Xz2 := Aside0.mk r2_
  have n0_ := Aside0.mk (blk_below BK1.out hb)
  have n1_ := Aside0.mk (Kd.R_below Xs0.out hb)
  have n2_ := Aside0.mk (Kd.R_below Xs1.out hb)
  have n3_ := Aside0.mk (Kd.S_below Xs2.out hb)
  have n4_ := Aside0.mk (blk_below BK4.out hb)
  have n5_ := Aside0.mk (Kd.R_below Xx0.out hb)
  have n6_ := Aside0.mk (Kd.R_below Xx1.out hb)
  have n7_ := Aside0.mk (Kd.R_below Xx2.out hb)
  have n8_ := Aside0.mk (blk_below BK5.out hb)
  have n9_ := Aside0.mk (Kd.R_below Xy0.out hb)
  have n10_ := Aside0.mk (Kd.R_below Xy1.out hb)
  have n11_ := Aside0.mk (Kd.S_below Xy2.out hb)
  have n12_ := Aside0.mk (blk_below BK6.out hb)
  clear BK1
  clear Xs0
  clear Xs1
  clear Xs2
  clear BK4
  clear Xx0
  clear Xx1
  clear Xx2
  clear BK5
  clear Xy0
  clear Xy1
  clear Xy2
  clear BK6
  have BK1 := n0_
  have Xs0 := n1_
  have Xs1 := n2_
  have Xs2 := n3_
  have BK4 := n4_
  have Xx0 := n5_
  have Xx1 := n6_
  have Xx2 := n7_
  have BK5 := n8_
  have Xy0 := n9_
  have Xy1 := n10_
  have Xy2 := n11_
  have BK6 := n12_
  clear n0_ n1_ n2_ n3_ n4_ n5_ n6_ n7_ n8_ n9_ n10_ n11_ n12_
  replace HB := Aside0.mk (below_step HB.out hb)
  clear r0_ r1_ r2_ hb hHeld
  refine hK.out _ _ ⟨(blk_cell BK5.out 0).trans rfl, (blk_cell BK5.out 1).trans rfl, (blk_cell BK5.out 2).trans rfl, (blk_cell BK1.out 0).trans rfl, (blk_cell BK1.out 1).trans rfl, (blk_cell BK1.out 2).trans rfl⟩ (fun hHeld => ?_)
  clear hK K
  refine norm_ (a' := ?_) ?_ ?_
  rotate_left
  ·show Act.put _ (some 29) _ = _
   simp only [Act.put, List.setIfInBounds_toArray, List.set_cons_zero, List.set_cons_succ, i64_w, i32_w]
   rfl
  refine one_ (i := 3) (N := some 30) #[true, true, true, true, false] rfl rfl (by kernel_rfl) (by decide) (fun K hK => ?_)
  refine goes_ Tryd.func16 (by kernel_rfl) rfl #[.agg #[.slice Ax0 d0.length cx0, .slice Ax1 d1.length cx1, .slice Ax2 d2.length cx2], .agg #[.slice Az0 d0.length cz0, .slice Az1 d1.length cz1, .slice Az2 d2.length cz2]] (by rfl) rfl rfl (by (try simp only [List.map_toArray, List.map_cons, List.map_nil]); first | done | rfl) ?_
  refine (laws_eqDecl.calls k _ _ d0 _ _ d1 _ _ d2 _ _ d0 _ _ d1 _ _ d2 true _ (Kd.R_reads' Xx0.out).2.2 (Kd.R_reads' Xx0.out).2.1 (Kd.R_reads' Xx1.out).2.2 (Kd.R_reads' Xx1.out).2.1 (Kd.R_reads' Xx2.out).2.2 (Kd.R_reads' Xx2.out).2.1 (Kd.R_reads' Xz0.out).2.2 (Kd.R_reads' Xz0.out).2.1 (Kd.R_reads' Xz1.out).2.2 (Kd.R_reads' Xz1.out).2.1 (Kd.R_reads' Xz2.out).2.2 (Kd.R_reads' Xz2.out).2.1 F2.out).mono ?_
  rintro e W13 ⟨rfl, hb⟩
  refine ⟨_, rfl, ?_⟩
  clear Xz0 Xz1 Xz2
  have n0_ := Aside0.mk (blk_below BK1.out hb)
  have n1_ := Aside0.mk (Kd.R_below Xs0.out hb)
  have n2_ := Aside0.mk (Kd.R_below Xs1.out hb)
  have n3_ := Aside0.mk (Kd.S_below Xs2.out hb)
  have n4_ := Aside0.mk (blk_below BK4.out hb)
  have n5_ := Aside0.mk (Kd.R_below Xx0.out hb)
  have n6_ := Aside0.mk (Kd.R_below Xx1.out hb)
  have n7_ := Aside0.mk (Kd.R_below Xx2.out hb)
  have n8_ := Aside0.mk (blk_below BK5.out hb)
  have n9_ := Aside0.mk (Kd.R_below Xy0.out hb)
  have n10_ := Aside0.mk (Kd.R_below Xy1.out hb)
  have n11_ := Aside0.mk (Kd.S_below Xy2.out hb)
  have n12_ := Aside0.mk (blk_below BK6.out hb)
  clear BK1
  clear Xs0
  clear Xs1
  clear Xs2
  clear BK4
  clear Xx0
  clear Xx1
  clear Xx2
  clear BK5
  clear Xy0
  clear Xy1
  clear Xy2
  clear BK6
  have BK1 := n0_
  have Xs0 := n1_
  have Xs1 := n2_
  have Xs2 := n3_
  have BK4 := n4_
  have Xx0 := n5_
  have Xx1 := n6_
  have Xx2 := n7_
  have BK5 := n8_
  have Xy0 := n9_
  have Xy1 := n10_
  have Xy2 := n11_
  have BK6 := n12_
  clear n0_ n1_ n2_ n3_ n4_ n5_ n6_ n7_ n8_ n9_ n10_ n11_ n12_
  replace HB := Aside0.mk (below_step HB.out hb)
  clear hb hHeld
  refine hK.out _ _ ⟨(blk_cell BK5.out 0).trans rfl, (blk_cell BK5.out 1).trans rfl, (blk_cell BK5.out 2).trans rfl, (blk_cell BK1.out 0).trans rfl, (blk_cell BK1.out 1).trans rfl, (blk_cell BK1.out 2).trans rfl⟩ (fun hHeld => ?_)
  clear hK K
  refine norm_ (a' := ?_) ?_ ?_
  rotate_left
  ·show Act.put _ (some 30) _ = _
   simp only [Act.put, List.setIfInBounds_toArray, List.set_cons_zero, List.set_cons_succ, i64_w, i32_w]
   rfl
  refine pure_ (i := 4) (N := some 31) (v := ?_) (a' := ?_) #[true, true, true, true, true] rfl rfl (by kernel_rfl) (fun _ _ _ h => h) (Or.inl ⟨by rfl, ?_⟩) ?_ ?_
  rotate_left
  ·intro w'
   go_simp
   with_reducible rfl
  rotate_left
  ·simp only [Act.put, List.setIfInBounds_toArray, List.set_cons_zero, List.set_cons_succ, i64_w, i32_w]
   rfl
  refine done_ (by kernel_rfl) ?_
  clear hHeld
  have yg50 : W13.cell? ⟨g5, 0, none⟩ = some (.slice Ax0 d0.length cx0) := (blk_cell BK5.out 0).trans rfl
  have yg51 : W13.cell? ⟨g5, 1, none⟩ = some (.slice Ax1 d1.length cx1) := (blk_cell BK5.out 1).trans rfl
  have yg52 : W13.cell? ⟨g5, 2, none⟩ = some (.slice Ax2 d2.length cx2) := (blk_cell BK5.out 2).trans rfl
  have hmm : (ms != ms) = false := by simp
  go_wp2_with (first
   | ((with_reducible refine gate_callee (f := 41) rfl ?_); refine goesL_ (some 34) rfl rfl Tryd.func41 (by kernel_rfl) rfl #[.agg #[.slice Ax0 d0.length cx0, .slice Ax1 d1.length cx1, .slice Ax2 d2.length cx2], .int .i64 1] rfl (by (try simp only [List.map_toArray, List.map_cons, List.map_nil]); first | done | rfl | (simp only [List.length_drop, List.length_take]; rfl)) ?_; refine (laws_markDecl.calls k (fun k_ => some k_ = (.slice Ax0 d0.length cx0 : Value).ownBlock) _ d0 (fun k_ => some k_ = (.slice Ax1 d1.length cx1 : Value).ownBlock) _ d1 (fun k_ => some k_ = (.slice Ax2 d2.length cx2 : Value).ownBlock) _ d2 1 md m0 m1 m2 w _ HB.out (Kd.R_reok rfl Xx0.out (fun k_ hk => hk.symm)) (fun k_ h0 h1 => (Xx1.out.1 k_ h1.symm).1.2 h0) (Kd.R_reok rfl Xx1.out (fun k_ hk => hk.symm)) (fun k_ h1 h0 => (Xx1.out.1 k_ h1.symm).1.2 h0) (Kd.R_reok rfl Xx2.out (fun k_ hk => hk.symm)) E5.out).mono ?_; rintro e W14 ⟨rfl, -, -, -, hb, hk⟩; refine ⟨_, rfl, ?_⟩; have n_BK1 := Aside0.mk (blk_kept BK1.out hk (by rintro (h0 | h0 | h0); (exact Kd.R_ne Xx0.out BK1.out (by decide) h0); (exact Kd.R_ne Xx1.out BK1.out (by decide) h0); (exact Kd.R_ne Xx2.out BK1.out (by decide) h0))); have n_Xs0 := Aside0.mk (Kd.R_kept Xs0.out hk (fun k_ hs_ hx_ => by have hs2 := hs_.1.2; rcases hx_ with h0 | h0 | h0; (have := (Xx0.out.1 k_ h0.symm).1.1; omega); (have := (Xx1.out.1 k_ h0.symm).1.1; omega); (have := (Xx2.out.1 k_ h0.symm).1.1; omega))); have n_Xs1 := Aside0.mk (Kd.R_kept Xs1.out hk (fun k_ hs_ hx_ => by have hs2 := hs_.1.2; rcases hx_ with h0 | h0 | h0; (have := (Xx0.out.1 k_ h0.symm).1.1; omega); (have := (Xx1.out.1 k_ h0.symm).1.1; omega); (have := (Xx2.out.1 k_ h0.symm).1.1; omega))); have n_Xs2 := Aside0.mk (Kd.S_kept Xs2.out hk (fun k_ hs_ hx_ => by have hs2 := hs_.1.2; rcases hx_ with h0 | h0 | h0; (have := (Xx0.out.1 k_ h0.symm).1.1; omega); (have := (Xx1.out.1 k_ h0.symm).1.1; omega); (have := (Xx2.out.1 k_ h0.symm).1.1; omega))); have n_BK4 := Aside0.mk (blk_kept BK4.out hk (by rintro (h0 | h0 | h0); (exact Kd.R_ne Xx0.out BK4.out (by decide) h0); (exact Kd.R_ne Xx1.out BK4.out (by decide) h0); (exact Kd.R_ne Xx2.out BK4.out (by decide) h0))); have n_Xy0 := Aside0.mk (Kd.R_kept Xy0.out hk (fun k_ hs_ hx_ => by have hs2 := hs_.1; rcases hx_ with h0 | h0 | h0; (have := (Xx0.out.1 k_ h0.symm).2; omega); (have := (Xx1.out.1 k_ h0.symm).2; omega); (have := (Xx2.out.1 k_ h0.symm).2; omega))); have n_Xy1 := Aside0.mk (Kd.R_kept Xy1.out hk (fun k_ hs_ hx_ => by have hs2 := hs_.1; rcases hx_ with h0 | h0 | h0; (have := (Xx0.out.1 k_ h0.symm).2; omega); (have := (Xx1.out.1 k_ h0.symm).2; omega); (have := (Xx2.out.1 k_ h0.symm).2; omega))); have n_Xy2 := Aside0.mk (Kd.S_kept Xy2.out hk (fun k_ hs_ hx_ => by have hs2 := hs_.1; rcases hx_ with h0 | h0 | h0; (have := (Xx0.out.1 k_ h0.symm).2; omega); (have := (Xx1.out.1 k_ h0.symm).2; omega); (have := (Xx2.out.1 k_ h0.symm).2; omega))); have n_BK6 := Aside0.mk (blk_kept BK6.out hk (by rintro (h0 | h0 | h0); (exact Kd.R_ne Xx0.out BK6.out (by decide) h0); (exact Kd.R_ne Xx1.out BK6.out (by decide) h0); (exact Kd.R_ne Xx2.out BK6.out (by decide) h0))); clear yg50 yg51 yg52; clear HB BK1 Xs0 Xs1 Xs2 BK4 Xx0 Xx1 Xx2 BK5 Xy0 Xy1 Xy2 BK6; have HB := Aside0.mk hb; have BK1 := n_BK1; have Xs0 := n_Xs0; have Xs1 := n_Xs1; have Xs2 := n_Xs2; have BK4 := n_BK4; have Xy0 := n_Xy0; have Xy1 := n_Xy1; have Xy2 := n_Xy2; have BK6 := n_BK6; clear hb hk n_BK1 n_Xs0 n_Xs1 n_Xs2 n_BK4 n_Xy0 n_Xy1 n_Xy2 n_BK6; have yg60 : W14.cell? ⟨g6, 0, none⟩ = some (.slice Ay0 g0.length cy0) := (blk_cell BK6.out 0).trans rfl; have yg61 : W14.cell? ⟨g6, 1, none⟩ = some (.slice Ay1 g1_.length cy1) := (blk_cell BK6.out 1).trans rfl; have yg62 : W14.cell? ⟨g6, 2, none⟩ = some (.slice Ay2 g2_.length cy2) := (blk_cell BK6.out 2).trans rfl; have yg40 : W14.cell? ⟨g4, 0, none⟩ = some (.slice As0 s0.length cs0) := (blk_cell BK4.out 0).trans rfl; have yg41 : W14.cell? ⟨g4, 1, none⟩ = some (.slice As1 s1.length cs1) := (blk_cell BK4.out 1).trans rfl; have yg42 : W14.cell? ⟨g4, 2, none⟩ = some (.slice As2 s2.length cs2) := (blk_cell BK4.out 2).trans rfl)
   | ((with_reducible refine gate_callee (f := 26) rfl ?_); refine gate_guard (by rfl) ?_; dsimp only; refine goesL_ (some 40) rfl rfl Tryd.func26 (by kernel_rfl) rfl #[.agg #[.slice Ay0 g0.length cy0, .slice Ay1 g1_.length cy1, .slice Ay2 g2_.length cy2], .agg #[.slice As0 s0.length cs0, .slice As1 s1.length cs1, .slice As2 s2.length cs2]] rfl (by (try simp only [List.map_toArray, List.map_cons, List.map_nil]); first | done | rfl) ?_; refine (laws_eqStore.calls k _ _ g0 _ _ g1_ _ _ g2_ _ _ s0 _ _ s1 _ _ s2 true _ (Kd.R_reads' Xy0.out).2.2 (Kd.R_reads' Xy0.out).2.1 (Kd.R_reads' Xy1.out).2.2 (Kd.R_reads' Xy1.out).2.1 (Kd.S_reads' Xy2.out).2.2 (Kd.S_reads' Xy2.out).2.1 (Kd.R_reads' Xs0.out).2.2 (Kd.R_reads' Xs0.out).2.1 (Kd.R_reads' Xs1.out).2.2 (Kd.R_reads' Xs1.out).2.1 (Kd.S_reads' Xs2.out).2.2 (Kd.S_reads' Xs2.out).2.1 F1.out).mono ?_; rintro e W15 ⟨rfl, hb⟩; refine ⟨_, rfl, ?_⟩; clear yg60 yg61 yg62; clear yg40 yg41 yg42; have n0_ := Aside0.mk (blk_below BK1.out hb); have n1_ := Aside0.mk (Kd.R_below Xs0.out hb); have n2_ := Aside0.mk (Kd.R_below Xs1.out hb); have n3_ := Aside0.mk (Kd.S_below Xs2.out hb); have n4_ := Aside0.mk (blk_below BK4.out hb); have n5_ := Aside0.mk (Kd.R_below Xy0.out hb); have n6_ := Aside0.mk (Kd.R_below Xy1.out hb); have n7_ := Aside0.mk (Kd.S_below Xy2.out hb); have n8_ := Aside0.mk (blk_below BK6.out hb); clear BK1; clear Xs0; clear Xs1; clear Xs2; clear BK4; clear Xy0; clear Xy1; clear Xy2; clear BK6; have BK1 := n0_; have Xs0 := n1_; have Xs1 := n2_; have Xs2 := n3_; have BK4 := n4_; have Xy0 := n5_; have Xy1 := n6_; have Xy2 := n7_; have BK6 := n8_; clear n0_ n1_ n2_ n3_ n4_ n5_ n6_ n7_ n8_; replace HB := Aside0.mk (below_step HB.out hb); clear hb; have yg60 : W15.cell? ⟨g6, 0, none⟩ = some (.slice Ay0 g0.length cy0) := (blk_cell BK6.out 0).trans rfl; have yg61 : W15.cell? ⟨g6, 1, none⟩ = some (.slice Ay1 g1_.length cy1) := (blk_cell BK6.out 1).trans rfl; have yg62 : W15.cell? ⟨g6, 2, none⟩ = some (.slice Ay2 g2_.length cy2) := (blk_cell BK6.out 2).trans rfl)
   | ((with_reducible refine gate_callee (f := 42) rfl ?_); refine goesL_ (some 45) rfl rfl Tryd.func42 (by kernel_rfl) rfl #[.agg #[.slice Ay0 g0.length cy0, .slice Ay1 g1_.length cy1, .slice Ay2 g2_.length cy2], .int .i64 1] rfl (by (try simp only [List.map_toArray, List.map_cons, List.map_nil]); first | done | rfl | (simp only [List.length_drop, List.length_take]; rfl)) ?_; have hS_ := Kd.S_bound Xy2.out; refine (laws_markStore.calls k (fun k_ => some k_ = (.slice Ay0 g0.length cy0 : Value).ownBlock) (fun k_ => some k_ = (.slice Ay1 g1_.length cy1 : Value).ownBlock) _ _ _ _ g0 g1_ g2_ 1 ms n0 n1 n2 w _ HB.out (Kd.R_reok rfl Xy0.out (fun k_ hk => hk.symm)) (Kd.R_reok rfl Xy1.out (fun k_ hk => hk.symm)) hS_ (fun k_ h0 h1 => by obtain ⟨cs_, hc_⟩ := Kd.R_typed Xy0.out k_ h0.symm; exact Kd.R_ne Xy1.out hc_ (by decide) h1) (fun k_ h0 h2 => h2.1.2 h0) (fun k_ h1 h2 => by obtain ⟨cs_, hc_⟩ := Kd.R_typed Xy1.out k_ h1.symm; obtain ⟨-, -, -, q_, hq_, cc_, hcc_⟩ := h2; rw [hc_] at hcc_; cases hcc_; exact absurd hq_ (by decide)) E6.out).mono ?_; rintro e W16 ⟨rfl, r0_, r1_, r2_, hb, hk⟩; refine ⟨_, rfl, ?_⟩; have n_BK1 := Aside0.mk (blk_kept BK1.out hk (by rintro (h0 | h0 | h0); (exact Kd.R_ne Xy0.out BK1.out (by decide) h0); (exact Kd.R_ne Xy1.out BK1.out (by decide) h0); (obtain ⟨-, -, -, q_, hq_, cc_, hcc_⟩ := h0; rw [BK1.out] at hcc_; cases hcc_; exact absurd hq_ (by decide)))); have n_Xs0 := Aside0.mk (Kd.R_kept Xs0.out hk (fun k_ hs_ hx_ => by have hs2 := hs_.2; rcases hx_ with h0 | h0 | h0; (have := (Xy0.out.1 k_ h0.symm).1; omega); (have := (Xy1.out.1 k_ h0.symm).1; omega); (have := h0.1.1; omega))); have n_Xs1 := Aside0.mk (Kd.R_kept Xs1.out hk (fun k_ hs_ hx_ => by have hs2 := hs_.2; rcases hx_ with h0 | h0 | h0; (have := (Xy0.out.1 k_ h0.symm).1; omega); (have := (Xy1.out.1 k_ h0.symm).1; omega); (have := h0.1.1; omega))); have n_Xs2 := Aside0.mk (Kd.S_kept Xs2.out hk (fun k_ hs_ hx_ => by have hs2 := hs_.2; rcases hx_ with h0 | h0 | h0; (have := (Xy0.out.1 k_ h0.symm).1; omega); (have := (Xy1.out.1 k_ h0.symm).1; omega); (have := h0.1.1; omega))); have n_BK4 := Aside0.mk (blk_kept BK4.out hk (by rintro (h0 | h0 | h0); (exact Kd.R_ne Xy0.out BK4.out (by decide) h0); (exact Kd.R_ne Xy1.out BK4.out (by decide) h0); (obtain ⟨-, -, -, q_, hq_, cc_, hcc_⟩ := h0; rw [BK4.out] at hcc_; cases hcc_; exact absurd hq_ (by decide)))); have b6_ := blk_kept BK6.out hk (by rintro (h0 | h0 | h0); (exact Kd.R_ne Xy0.out BK6.out (by decide) h0); (exact Kd.R_ne Xy1.out BK6.out (by decide) h0); (obtain ⟨-, -, -, q_, hq_, cc_, hcc_⟩ := h0; rw [BK6.out] at hcc_; cases hcc_; exact absurd hq_ (by decide))); have q0_ := (Kd.R_reads' r0_).1; have q1_ := (Kd.R_reads' r1_).1; have q2_ := (Kd.S_reads' r2_).1; rw [q0_, q1_, q2_] at b6_; rw [q0_] at r0_; rw [q1_] at r1_; rw [q2_] at r2_; clear yg60 yg61 yg62; clear HB hS_ q0_ q1_ q2_ BK1 Xs0 Xs1 Xs2 BK4 Xy0 Xy1 Xy2 BK6; have HB := Aside0.mk hb; have BK1 := n_BK1; clear n_BK1; have Xs0 := n_Xs0; clear n_Xs0; have Xs1 := n_Xs1; clear n_Xs1; have Xs2 := n_Xs2; clear n_Xs2; have BK4 := n_BK4; clear n_BK4; have Xy0 := Aside0.mk r0_; have Xy1 := Aside0.mk r1_; have Xy2 := Aside0.mk r2_; have BK6 := Aside0.mk b6_; clear hb hk r0_ r1_ r2_ b6_; have yg60 : W16.cell? ⟨g6, 0, none⟩ = some (.slice Ay0 n0.length cy0) := (blk_cell BK6.out 0).trans rfl; have yg61 : W16.cell? ⟨g6, 1, none⟩ = some (.slice Ay1 n1.length cy1) := (blk_cell BK6.out 1).trans rfl; have yg62 : W16.cell? ⟨g6, 2, none⟩ = some (.slice Ay2 n2.length cy2) := (blk_cell BK6.out 2).trans rfl)
   | ((with_reducible refine gate_callee (f := 43) rfl ?_); refine goesL_ (some 48) rfl rfl Tryd.func43 (by kernel_rfl) rfl #[.agg #[.slice Ay0 n0.length cy0, .slice Ay1 n1.length cy1, .slice Ay2 n2.length cy2], .int .i64 1] rfl (by (try simp only [List.map_toArray, List.map_cons, List.map_nil]); first | done | rfl | (simp only [List.length_drop, List.length_take]; rfl)) ?_; refine (laws_heldStore.calls k _ _ n0 _ _ n1 _ _ n2 1 ms _ (Kd.R_reads' Xy0.out).2.2 (Kd.R_reads' Xy0.out).2.1 (Kd.R_reads' Xy1.out).2.2 (Kd.R_reads' Xy1.out).2.1 (Kd.S_reads' Xy2.out).2.2 (Kd.S_reads' Xy2.out).2.1 F4.out).mono ?_; rintro e W17 ⟨rfl, hb⟩; refine ⟨_, rfl, ?_⟩; clear yg60 yg61 yg62; have n0_ := Aside0.mk (blk_below BK1.out hb); have n1_ := Aside0.mk (Kd.R_below Xs0.out hb); have n2_ := Aside0.mk (Kd.R_below Xs1.out hb); have n3_ := Aside0.mk (Kd.S_below Xs2.out hb); have n4_ := Aside0.mk (blk_below BK4.out hb); have n5_ := Aside0.mk (Kd.R_below Xy0.out hb); have n6_ := Aside0.mk (Kd.R_below Xy1.out hb); have n7_ := Aside0.mk (Kd.S_below Xy2.out hb); have n8_ := Aside0.mk (blk_below BK6.out hb); clear BK1; clear Xs0; clear Xs1; clear Xs2; clear BK4; clear Xy0; clear Xy1; clear Xy2; clear BK6; have BK1 := n0_; have Xs0 := n1_; have Xs1 := n2_; have Xs2 := n3_; have BK4 := n4_; have Xy0 := n5_; have Xy1 := n6_; have Xy2 := n7_; have BK6 := n8_; clear n0_ n1_ n2_ n3_ n4_ n5_ n6_ n7_ n8_; replace HB := Aside0.mk (below_step HB.out hb); clear hb; have yg10 : W17.cell? ⟨g1, 0, none⟩ = some (.slice A0_0 l0_0.length c0_0) := (blk_cell BK1.out 0).trans rfl; have yg11 : W17.cell? ⟨g1, 1, none⟩ = some (.slice A0_1 l0_1.length c0_1) := (blk_cell BK1.out 1).trans rfl; have yg12 : W17.cell? ⟨g1, 2, none⟩ = some (.slice A0_2 l0_2.length c0_2) := (blk_cell BK1.out 2).trans rfl)
   | ((with_reducible refine gate_callee (f := 14) rfl ?_); refine goesL_ (some 55) rfl rfl Tryd.func14 (by kernel_rfl) rfl #[.agg #[.slice A0_0 l0_0.length c0_0, .slice A0_1 l0_1.length c0_1, .slice A0_2 l0_2.length c0_2]] rfl (by (try simp only [List.map_toArray, List.map_cons, List.map_nil]); first | done | rfl | (simp only [List.length_drop, List.length_take]; rfl)) ?_; refine (laws_toDecl.calls k _ _ l0_0 _ _ l0_1 _ _ l0_2 d0 d1 d2 _ (Kd.C_below HR0.out HB.out) HC0.out (Kd.C_below HR1.out HB.out) HC1.out (Kd.C_below HR2.out HB.out) HC2.out E2.out).mono ?_; rintro e W18 ⟨uv0, uv1, uv2, rfl, r0_, r1_, r2_, hb⟩; refine ⟨_, rfl, ?_⟩; obtain ⟨Av0, cv0, rfl⟩ := Kd.R_slice r0_; obtain ⟨Av1, cv1, rfl⟩ := Kd.R_slice r1_; obtain ⟨Av2, cv2, rfl⟩ := Kd.R_slice r2_; have Xv0 := Aside0.mk (laws_FnExactStoreNew.R_new r0_ (below_size HB.out)); have Xv1 := Aside0.mk (laws_FnExactStoreNew.R_new r1_ (below_size HB.out)); have Xv2 := Aside0.mk (laws_FnExactStoreNew.R_new r2_ (below_size HB.out)); clear yg10 yg11 yg12; have n0_ := Aside0.mk (blk_below BK1.out hb); have n1_ := Aside0.mk (Kd.R_below Xs0.out hb); have n2_ := Aside0.mk (Kd.R_below Xs1.out hb); have n3_ := Aside0.mk (Kd.S_below Xs2.out hb); have n4_ := Aside0.mk (blk_below BK4.out hb); have n5_ := Aside0.mk (Kd.R_below Xy0.out hb); have n6_ := Aside0.mk (Kd.R_below Xy1.out hb); have n7_ := Aside0.mk (Kd.S_below Xy2.out hb); have n8_ := Aside0.mk (blk_below BK6.out hb); clear BK1; clear Xs0; clear Xs1; clear Xs2; clear BK4; clear Xy0; clear Xy1; clear Xy2; clear BK6; have BK1 := n0_; have Xs0 := n1_; have Xs1 := n2_; have Xs2 := n3_; have BK4 := n4_; have Xy0 := n5_; have Xy1 := n6_; have Xy2 := n7_; have BK6 := n8_; clear n0_ n1_ n2_ n3_ n4_ n5_ n6_ n7_ n8_; replace HB := Aside0.mk (below_step HB.out hb); clear r0_ r1_ r2_ hb)
   | ((with_reducible refine gate_callee (f := 40) rfl ?_); refine goesL_ (some 56) rfl rfl Tryd.func40 (by kernel_rfl) rfl #[.agg #[.slice Av0 d0.length cv0, .slice Av1 d1.length cv1, .slice Av2 d2.length cv2]] rfl (by (try simp only [List.map_toArray, List.map_cons, List.map_nil]); first | done | rfl | (simp only [List.length_drop, List.length_take]; rfl)) ?_; refine (impl_StoreNew.calls k _ _ d0 _ _ d1 _ _ d2 g0 g1_ g2_ _ (Kd.R_reads' Xv0.out).2.2 (Kd.R_reads' Xv0.out).2.1 (Kd.R_reads' Xv1.out).2.2 (Kd.R_reads' Xv1.out).2.1 (Kd.R_reads' Xv2.out).2.2 (Kd.R_reads' Xv2.out).2.1 E4.out).mono ?_; rintro e W19 ⟨uh0, uh1, uh2, rfl, r0_, r1_, r2_, hb⟩; refine ⟨_, rfl, ?_⟩; obtain ⟨Ah0, ch0, rfl⟩ := Kd.R_slice r0_; obtain ⟨Ah1, ch1, rfl⟩ := Kd.R_slice r1_; obtain ⟨Ah2, ch2, rfl⟩ := Kd.S_slice r2_; have Xh0 := Aside0.mk (laws_FnExactStoreNew.R_new r0_ (below_size HB.out)); have Xh1 := Aside0.mk (laws_FnExactStoreNew.R_new r1_ (below_size HB.out)); have Xh2 := Aside0.mk (laws_FnExactStoreNew.S_new r2_ (below_size HB.out)); clear Xv0 Xv1 Xv2; have n0_ := Aside0.mk (blk_below BK1.out hb); have n1_ := Aside0.mk (Kd.R_below Xs0.out hb); have n2_ := Aside0.mk (Kd.R_below Xs1.out hb); have n3_ := Aside0.mk (Kd.S_below Xs2.out hb); have n4_ := Aside0.mk (blk_below BK4.out hb); have n5_ := Aside0.mk (Kd.R_below Xy0.out hb); have n6_ := Aside0.mk (Kd.R_below Xy1.out hb); have n7_ := Aside0.mk (Kd.S_below Xy2.out hb); have n8_ := Aside0.mk (blk_below BK6.out hb); clear BK1; clear Xs0; clear Xs1; clear Xs2; clear BK4; clear Xy0; clear Xy1; clear Xy2; clear BK6; have BK1 := n0_; have Xs0 := n1_; have Xs1 := n2_; have Xs2 := n3_; have BK4 := n4_; have Xy0 := n5_; have Xy1 := n6_; have Xy2 := n7_; have BK6 := n8_; clear n0_ n1_ n2_ n3_ n4_ n5_ n6_ n7_ n8_; replace HB := Aside0.mk (below_step HB.out hb); clear r0_ r1_ r2_ hb)
   | ((with_reducible refine gate_dst (N := 10) rfl ?_); refine laws_FnExactStoreNew.new_box rfl rfl rfl rfl rfl (x0 := .slice Ah0 g0.length ch0) (x1 := .slice Ah1 g1_.length ch1) (x2 := .slice Ah2 g2_.length ch2) (t := 52) (by first | (go_simp; done) | (go_simp; rfl)) (by intro g_ w_ q0 q1 q2 q3 q4 q5; first | (go_simp; done) | (go_simp; rfl)) ?_; intro g10 W20 hbox hb; have n0_ := Aside0.mk (blk_below BK1.out hb); have n1_ := Aside0.mk (Kd.R_below Xs0.out hb); have n2_ := Aside0.mk (Kd.R_below Xs1.out hb); have n3_ := Aside0.mk (Kd.S_below Xs2.out hb); have n4_ := Aside0.mk (blk_below BK4.out hb); have n5_ := Aside0.mk (Kd.R_below Xy0.out hb); have n6_ := Aside0.mk (Kd.R_below Xy1.out hb); have n7_ := Aside0.mk (Kd.S_below Xy2.out hb); have n8_ := Aside0.mk (blk_below BK6.out hb); have n9_ := Aside0.mk (Kd.R_below Xh0.out hb); have n10_ := Aside0.mk (Kd.R_below Xh1.out hb); have n11_ := Aside0.mk (Kd.S_below Xh2.out hb); clear BK1; clear Xs0; clear Xs1; clear Xs2; clear BK4; clear Xy0; clear Xy1; clear Xy2; clear BK6; clear Xh0; clear Xh1; clear Xh2; have BK1 := n0_; have Xs0 := n1_; have Xs1 := n2_; have Xs2 := n3_; have BK4 := n4_; have Xy0 := n5_; have Xy1 := n6_; have Xy2 := n7_; have BK6 := n8_; have Xh0 := n9_; have Xh1 := n10_; have Xh2 := n11_; clear n0_ n1_ n2_ n3_ n4_ n5_ n6_ n7_ n8_ n9_ n10_ n11_; replace HB := Aside0.mk (below_step HB.out hb); have BK10 := Aside0.mk hbox; clear hbox hb; have yg100 : W20.cell? ⟨g10, 0, none⟩ = some (.slice Ah0 g0.length ch0) := (blk_cell BK10.out 0).trans rfl; have yg101 : W20.cell? ⟨g10, 1, none⟩ = some (.slice Ah1 g1_.length ch1) := (blk_cell BK10.out 1).trans rfl; have yg102 : W20.cell? ⟨g10, 2, none⟩ = some (.slice Ah2 g2_.length ch2) := (blk_cell BK10.out 2).trans rfl; have yg40 : W20.cell? ⟨g4, 0, none⟩ = some (.slice As0 s0.length cs0) := (blk_cell BK4.out 0).trans rfl; have yg41 : W20.cell? ⟨g4, 1, none⟩ = some (.slice As1 s1.length cs1) := (blk_cell BK4.out 1).trans rfl; have yg42 : W20.cell? ⟨g4, 2, none⟩ = some (.slice As2 s2.length cs2) := (blk_cell BK4.out 2).trans rfl)
   | ((with_reducible refine gate_callee (f := 26) rfl ?_); refine goesL_ (some 59) rfl rfl Tryd.func26 (by kernel_rfl) rfl #[.agg #[.slice Ah0 g0.length ch0, .slice Ah1 g1_.length ch1, .slice Ah2 g2_.length ch2], .agg #[.slice As0 s0.length cs0, .slice As1 s1.length cs1, .slice As2 s2.length cs2]] rfl (by (try simp only [List.map_toArray, List.map_cons, List.map_nil]); first | done | rfl | (simp only [List.length_drop, List.length_take]; rfl)) ?_; refine (laws_eqStore.calls k _ _ g0 _ _ g1_ _ _ g2_ _ _ s0 _ _ s1 _ _ s2 true _ (Kd.R_reads' Xh0.out).2.2 (Kd.R_reads' Xh0.out).2.1 (Kd.R_reads' Xh1.out).2.2 (Kd.R_reads' Xh1.out).2.1 (Kd.S_reads' Xh2.out).2.2 (Kd.S_reads' Xh2.out).2.1 (Kd.R_reads' Xs0.out).2.2 (Kd.R_reads' Xs0.out).2.1 (Kd.R_reads' Xs1.out).2.2 (Kd.R_reads' Xs1.out).2.1 (Kd.S_reads' Xs2.out).2.2 (Kd.S_reads' Xs2.out).2.1 F1.out).mono ?_; rintro e W21 ⟨rfl, hb⟩; refine ⟨_, rfl, ?_⟩; clear yg100 yg101 yg102; clear yg40 yg41 yg42; have n0_ := Aside0.mk (blk_below BK1.out hb); have n1_ := Aside0.mk (Kd.R_below Xs0.out hb); have n2_ := Aside0.mk (Kd.R_below Xs1.out hb); have n3_ := Aside0.mk (Kd.S_below Xs2.out hb); have n4_ := Aside0.mk (blk_below BK4.out hb); have n5_ := Aside0.mk (Kd.R_below Xy0.out hb); have n6_ := Aside0.mk (Kd.R_below Xy1.out hb); have n7_ := Aside0.mk (Kd.S_below Xy2.out hb); have n8_ := Aside0.mk (blk_below BK6.out hb); have n9_ := Aside0.mk (Kd.R_below Xh0.out hb); have n10_ := Aside0.mk (Kd.R_below Xh1.out hb); have n11_ := Aside0.mk (Kd.S_below Xh2.out hb); have n12_ := Aside0.mk (blk_below BK10.out hb); clear BK1; clear Xs0; clear Xs1; clear Xs2; clear BK4; clear Xy0; clear Xy1; clear Xy2; clear BK6; clear Xh0; clear Xh1; clear Xh2; clear BK10; have BK1 := n0_; have Xs0 := n1_; have Xs1 := n2_; have Xs2 := n3_; have BK4 := n4_; have Xy0 := n5_; have Xy1 := n6_; have Xy2 := n7_; have BK6 := n8_; have Xh0 := n9_; have Xh1 := n10_; have Xh2 := n11_; have BK10 := n12_; clear n0_ n1_ n2_ n3_ n4_ n5_ n6_ n7_ n8_ n9_ n10_ n11_ n12_; replace HB := Aside0.mk (below_step HB.out hb); clear hb; have yg60 : W21.cell? ⟨g6, 0, none⟩ = some (.slice Ay0 n0.length cy0) := (blk_cell BK6.out 0).trans rfl; have yg61 : W21.cell? ⟨g6, 1, none⟩ = some (.slice Ay1 n1.length cy1) := (blk_cell BK6.out 1).trans rfl; have yg62 : W21.cell? ⟨g6, 2, none⟩ = some (.slice Ay2 n2.length cy2) := (blk_cell BK6.out 2).trans rfl)
   | ((with_reducible refine gate_callee (f := 43) rfl ?_); refine goesL_ (some 63) rfl rfl Tryd.func43 (by kernel_rfl) rfl #[.agg #[.slice Ay0 n0.length cy0, .slice Ay1 n1.length cy1, .slice Ay2 n2.length cy2], .int .i64 1] rfl (by (try simp only [List.map_toArray, List.map_cons, List.map_nil]); first | done | rfl | (simp only [List.length_drop, List.length_take]; rfl)) ?_; refine (laws_heldStore.calls k _ _ n0 _ _ n1 _ _ n2 1 ms _ (Kd.R_reads' Xy0.out).2.2 (Kd.R_reads' Xy0.out).2.1 (Kd.R_reads' Xy1.out).2.2 (Kd.R_reads' Xy1.out).2.1 (Kd.S_reads' Xy2.out).2.2 (Kd.S_reads' Xy2.out).2.1 F4.out).mono ?_; rintro e W22 ⟨rfl, hb⟩; refine ⟨_, rfl, ?_⟩; clear yg60 yg61 yg62; have n0_ := Aside0.mk (blk_below BK1.out hb); have n1_ := Aside0.mk (Kd.R_below Xs0.out hb); have n2_ := Aside0.mk (Kd.R_below Xs1.out hb); have n3_ := Aside0.mk (Kd.S_below Xs2.out hb); have n4_ := Aside0.mk (blk_below BK4.out hb); have n5_ := Aside0.mk (Kd.R_below Xy0.out hb); have n6_ := Aside0.mk (Kd.R_below Xy1.out hb); have n7_ := Aside0.mk (Kd.S_below Xy2.out hb); have n8_ := Aside0.mk (blk_below BK6.out hb); have n9_ := Aside0.mk (Kd.R_below Xh0.out hb); have n10_ := Aside0.mk (Kd.R_below Xh1.out hb); have n11_ := Aside0.mk (Kd.S_below Xh2.out hb); have n12_ := Aside0.mk (blk_below BK10.out hb); clear BK1; clear Xs0; clear Xs1; clear Xs2; clear BK4; clear Xy0; clear Xy1; clear Xy2; clear BK6; clear Xh0; clear Xh1; clear Xh2; clear BK10; have BK1 := n0_; have Xs0 := n1_; have Xs1 := n2_; have Xs2 := n3_; have BK4 := n4_; have Xy0 := n5_; have Xy1 := n6_; have Xy2 := n7_; have BK6 := n8_; have Xh0 := n9_; have Xh1 := n10_; have Xh2 := n11_; have BK10 := n12_; clear n0_ n1_ n2_ n3_ n4_ n5_ n6_ n7_ n8_ n9_ n10_ n11_ n12_; replace HB := Aside0.mk (below_step HB.out hb); clear hb))
  go_ret
  exact ⟨rfl, HB.out⟩

end Go.Proofs.YtcomagipdbdglaaDoor.Q
