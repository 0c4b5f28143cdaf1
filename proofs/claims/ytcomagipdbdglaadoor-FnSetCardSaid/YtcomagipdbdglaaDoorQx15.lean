-- Contracts of the program's functions, each with the plain function that it computes.
import Derived.Test.YtcomagipdbdglaaDoorQx0
import Derived.Test.YtcomagipdbdglaaDoorQx2
import Derived.Test.YtcomagipdbdglaaDoorQx5
import Derived.Test.YtcomagipdbdglaaDoorQx6
import Derived.Test.YtcomagipdbdglaaDoorQx10
import Derived.Test.YtcomagipdbdglaaDoorQx12
import Derived.Test.YtcomagipdbdglaaDoorQx14
namespace Go.Proofs.YtcomagipdbdglaaDoor.Q
open Go.RowKit Go.Proofs.YtcomagipdbdglaaDoorW.PrintWords Go.Proofs.YtcomagipdbdglaaDoorW.PrintLast Go.Proofs.YtcomagipdbdglaaDoorW.PrintMore
attribute [local go_sem] max2_int min2_int max_two min_two max_three min_three max_four min_four   -- for this text's walks alone
set_option linter.unusedVariables false
set_option linter.unusedSimpArgs false

/-! ### spec_DrawEnvSet: function 45 -/
def spec_DrawEnvSet.f (k : Nat) (l0 : List Int) : Option (List ByteArray × List ByteArray × (List (S91)) × Bool × (List (S78)) × (List (S78)) × Int × Int × Int) := (spec_l1Open.f l0).bind fun bt199 => ((spec_l1Rd_decl.f bt199.1 bt199.2).bind fun bt202 => ((spec_l1Rd_env.f k bt199.1 bt202.2.2.2 bt202.1 bt202.2.1 bt202.2.2.1).bind fun bt213 => ((spec_l1Rd_hurtEnv.f bt199.1 bt213.2.2.2 bt213.1 bt213.2.1 bt213.2.2.1).bind fun bt221 => ((spec_l1Rd_off.f k bt199.1 bt221.2.2.2 0 (wrap64 ((bt202.1.length : Int) - 1))).bind fun bt230 => ((spec_l1Rd_iv.f k bt199.1 bt230.2).bind fun bt232 => (some (bt202.1, bt202.2.1, bt202.2.2.1, bt221.1, bt221.2.1, bt221.2.2.1, bt230.1, bt232.1, bt232.2.1)))))))
theorem spec_DrawEnvSet.mono : ∀ a0 k, LeO (spec_DrawEnvSet.f k a0) (spec_DrawEnvSet.f (k + 1) a0) := by
 intro a0 k
 unfold spec_DrawEnvSet.f
 repeat' first
   | (with_reducible exact spec_l1Rd_env.mono _ _ _ _ _ _)
   | (with_reducible exact spec_l1Rd_iv.mono _ _ _)
   | (with_reducible exact spec_l1Rd_off.mono _ _ _ _ _)
   | (with_reducible exact LeO.refl _)
   | (with_reducible exact LeO.none _)
   | (with_reducible refine LeO.ite ?_ ?_)
   | (with_reducible refine LeO.bind ?_ (fun _ => ?_))
   | exact spec_l1Rd_env.mono _ _ _ _ _ _
   | exact spec_l1Rd_iv.mono _ _ _
   | exact spec_l1Rd_off.mono _ _ _ _ _
   | exact LeO.none _
   | refine LeO.ite ?_ ?_
   | refine LeO.bind ?_ (fun _ => ?_)
def spec_DrawEnvSet.T4 : Bool × List (List Nat × List Nat) := (true, [([], []), ([], []), ([], []), ([], []), ([3], [3]), ([4], [4]), ([5], [5]), ([2, 6], [2, 6]), ([], []), ([8, 7], [8]), ([0, 9, 0], [0]), ([1, 10, 0, 1, 10], [1]), ([7, 11, 0, 1, 2, 3, 4, 5, 6, 7, 10, 11], [7]), ([9, 12, 0, 1, 2, 3, 4, 5, 6, 7, 8, 9, 10, 11, 12], [9])])
def spec_DrawEnvSet.B4 : List Nat := [0, 0, 0, 0, 8, 24, 56, 124, 0, 508, 1021, 2047, 4095, 8191]
theorem spec_DrawEnvSet.tab4 : rtab .any (opsOf Tryd.f45 4) = spec_DrawEnvSet.T4 := by kernel_rfl
theorem spec_DrawEnvSet.bits4 : waitsOk spec_DrawEnvSet.T4.2 spec_DrawEnvSet.B4 = true := by kernel_rfl
set_option maxHeartbeats 8000000 in
set_option maxRecDepth 100000 in
theorem spec_DrawEnvSet.calls (k : Nat) (A0 : Option Addr) (c0 : Nat) (l0 : List Int) (r1 : List ByteArray) (r2 : List ByteArray) (r3 : List (S91)) (r4 : Bool) (r5 : List (S78)) (r6 : List (S78)) (r7 : Int) (r8 : Int) (r9 : Int) (w : World) (hr0 : Kd.C (Kd.int .u8) w A0 l0.length l0) (hc0 : l0.length ≤ c0) (h : spec_DrawEnvSet.f k l0 = some (r1, r2, r3, r4, r5, r6, r7, r8, r9)) :
  Calls Tryd.prog 45 #[.slice A0 l0.length c0] w fun e w' => ∃ v0_ v1_ v2_ v4_ v5_ : Value, e = .returned (.tuple #[.agg #[v0_, v1_, v2_], .agg #[.bool r4, v4_, v5_], .int .i64 r7, .agg #[.int .i64 r8, .int .i64 r9]]) ∧ Kd.R Kd.string 9 w' w.heap.size (fun k_ => some k_ ≠ (v1_ : Value).ownBlock) v0_ r1 ∧ Kd.R Kd.string 9 w' w.heap.size (fun k_ => some k_ ≠ (v0_ : Value).ownBlock) v1_ r2 ∧ Kd.R k91 91 w' w.heap.size (fun _ => True) v2_ r3 ∧ Kd.R k78 78 w' w.heap.size (fun k_ => some k_ ≠ (v5_ : Value).ownBlock) v4_ r5 ∧ Kd.R k78 78 w' w.heap.size (fun k_ => some k_ ≠ (v4_ : Value).ownBlock) v5_ r6 ∧ Below w.heap.size w w' := by
 have hu30 := Tryd.underlying30
 have hu41 := Tryd.underlying41
 have hu78 := Tryd.underlying78
 have HR0 := Aside0.mk hr0
 have HC0 := Aside0.mk hc0
 clear hr0 hc0
 have HB := Aside0.mk (Below.refl w.heap.size w)
 have H : ((spec_l1Open.f l0).bind fun bt199 => ((spec_l1Rd_decl.f bt199.1 bt199.2).bind fun bt202 => ((spec_l1Rd_env.f k bt199.1 bt202.2.2.2 bt202.1 bt202.2.1 bt202.2.2.1).bind fun bt213 => ((spec_l1Rd_hurtEnv.f bt199.1 bt213.2.2.2 bt213.1 bt213.2.1 bt213.2.2.1).bind fun bt221 => ((spec_l1Rd_off.f k bt199.1 bt221.2.2.2 0 (wrap64 ((bt202.1.length : Int) - 1))).bind fun bt230 => ((spec_l1Rd_iv.f k bt199.1 bt230.2).bind fun bt232 => (some (bt202.1, bt202.2.1, bt202.2.2.1, bt221.1, bt221.2.1, bt221.2.2.1, bt230.1, bt232.1, bt232.2.1)))))))) = some (r1, r2, r3, r4, r5, r6, r7, r8, r9) := h
 clear h
 replace H := Option.bind_eq_some_iff.mp H
 obtain ⟨⟨t199, t200⟩, A20, H⟩ := H
 replace H : ((spec_l1Rd_decl.f t199 t200).bind fun bt202 => ((spec_l1Rd_env.f k t199 bt202.2.2.2 bt202.1 bt202.2.1 bt202.2.2.1).bind fun bt213 => ((spec_l1Rd_hurtEnv.f t199 bt213.2.2.2 bt213.1 bt213.2.1 bt213.2.2.1).bind fun bt221 => ((spec_l1Rd_off.f k t199 bt221.2.2.2 0 (wrap64 ((bt202.1.length : Int) - 1))).bind fun bt230 => ((spec_l1Rd_iv.f k t199 bt230.2).bind fun bt232 => (some (bt202.1, bt202.2.1, bt202.2.2.1, bt221.1, bt221.2.1, bt221.2.2.1, bt230.1, bt232.1, bt232.2.1))))))) = some (r1, r2, r3, r4, r5, r6, r7, r8, r9) := H
 have A2 := Aside0.mk A20
 clear A20
 replace H := Option.bind_eq_some_iff.mp H
 obtain ⟨⟨t202, t205, t208, t211⟩, A30, H⟩ := H
 replace H : ((spec_l1Rd_env.f k t199 t211 t202 t205 t208).bind fun bt213 => ((spec_l1Rd_hurtEnv.f t199 bt213.2.2.2 bt213.1 bt213.2.1 bt213.2.2.1).bind fun bt221 => ((spec_l1Rd_off.f k t199 bt221.2.2.2 0 (wrap64 ((t202.length : Int) - 1))).bind fun bt230 => ((spec_l1Rd_iv.f k t199 bt230.2).bind fun bt232 => (some (t202, t205, t208, bt221.1, bt221.2.1, bt221.2.2.1, bt230.1, bt232.1, bt232.2.1)))))) = some (r1, r2, r3, r4, r5, r6, r7, r8, r9) := H
 have A3 := Aside0.mk A30
 clear A30
 replace H := Option.bind_eq_some_iff.mp H
 obtain ⟨⟨t213, t214, t217, t220⟩, A40, H⟩ := H
 replace H : ((spec_l1Rd_hurtEnv.f t199 t220 t213 t214 t217).bind fun bt221 => ((spec_l1Rd_off.f k t199 bt221.2.2.2 0 (wrap64 ((t202.length : Int) - 1))).bind fun bt230 => ((spec_l1Rd_iv.f k t199 bt230.2).bind fun bt232 => (some (t202, t205, t208, bt221.1, bt221.2.1, bt221.2.2.1, bt230.1, bt232.1, bt232.2.1))))) = some (r1, r2, r3, r4, r5, r6, r7, r8, r9) := H
 have A4 := Aside0.mk A40
 clear A40
 replace H := Option.bind_eq_some_iff.mp H
 obtain ⟨⟨t221, t222, t225, t228⟩, A50, H⟩ := H
 replace H : ((spec_l1Rd_off.f k t199 t228 0 (wrap64 ((t202.length : Int) - 1))).bind fun bt230 => ((spec_l1Rd_iv.f k t199 bt230.2).bind fun bt232 => (some (t202, t205, t208, t221, t222, t225, bt230.1, bt232.1, bt232.2.1)))) = some (r1, r2, r3, r4, r5, r6, r7, r8, r9) := H
 have A5 := Aside0.mk A50
 clear A50
 replace H := Option.bind_eq_some_iff.mp H
 obtain ⟨⟨t230, t231⟩, A60, H⟩ := H
 replace H : ((spec_l1Rd_iv.f k t199 t231).bind fun bt232 => (some (t202, t205, t208, t221, t222, t225, t230, bt232.1, bt232.2.1))) = some (r1, r2, r3, r4, r5, r6, r7, r8, r9) := H
 have A6 := Aside0.mk A60
 clear A60
 replace H := Option.bind_eq_some_iff.mp H
 obtain ⟨⟨t232, t233, t234⟩, A70, H⟩ := H
 replace H : (some (t202, t205, t208, t221, t222, t225, t230, t232, t233)) = some (r1, r2, r3, r4, r5, r6, r7, r8, r9) := H
 have A7 := Aside0.mk A70
 clear A70
 simp only [Option.some.injEq, Prod.mk.injEq] at H
 obtain ⟨rfl, rfl, rfl, rfl, rfl, rfl, rfl, rfl, rfl⟩ := H
 go_enter Tryd.func45, Tryd.ntmps45
 try go_wp2_with (first | ((with_reducible refine gate_dst (N := 2) rfl ?_); refine box_event rfl rfl (cs := #[.slice none 0 0, .slice none 0 0, .slice none 0 0]) (t := 30) (by first | (go_simp; done) | (go_simp; rfl)) ?_; intro gb196 hg w8 hbox hb; have BK196 := Aside0.mk (hbox); have GW196 := bz HB hg; have GE196 := bz HB hg; replace HB := bs HB hb; clear hb hbox hg) | ((with_reducible refine gate_dst (N := 3) rfl ?_); refine box_event rfl rfl (cs := #[.bool false, .slice none 0 0, .slice none 0 0]) (t := 41) (by first | (go_simp; done) | (go_simp; rfl)) ?_; intro gb197 hg w9 hbox hb; have BK197 := Aside0.mk (hbox); have GW197 := bz HB hg; have GE197 := bz HB hg; replace HB := bs HB hb; have NB196_197 := bl BK196 hg; have NB197_196 := bg BK196 hg; replace BK196 := bb BK196 hb; clear hb hbox hg) | ((with_reducible refine gate_dst (N := 5) rfl ?_); refine box_event rfl rfl (cs := #[.int .i64 0, .int .i64 0]) (t := 78) (by first | (go_simp; done) | (go_simp; rfl)) ?_; intro gb198 hg w10 hbox hb; have BK198 := Aside0.mk (hbox); have GW198 := bz HB hg; have GE198 := bz HB hg; replace HB := bs HB hb; have NB196_198 := bl BK196 hg; have NB198_196 := bg BK196 hg; replace BK196 := bb BK196 hb; have NB197_198 := bl BK197 hg; have NB198_197 := bg BK197 hg; replace BK197 := bb BK197 hb; clear hb hbox hg) | ((with_reducible refine gate_callee (f := 97) rfl ?_); refine goesL_ (some 10) rfl rfl Tryd.func97 (by kernel_rfl) rfl #[.slice A0 l0.length c0] rfl (by (try simp only [List.map_toArray, List.map_cons, List.map_nil]); first | done | rfl | (simp only [List.length_drop, List.length_take]; rfl)) ?_; (with_reducible refine (spec_l1Open.calls _ _ l0 t199 t200 w _ ?side1 ?side2 ?side3 A2.out).mono ?_); (case side1 => repeat (first | (with_reducible first | exact HB.out | apply below_alloc | apply pw_below_drewN | apply below_drew1 | refine below_set ?_ GE196.out | refine below_set ?_ GE197.out | refine below_set ?_ GE198.out) | exact HB.out)); (case side2 => exact HR0.out); (case side3 => exact HC0.out); rintro e w11 ⟨g201, rfl, hi, hb, hb2⟩; refine ⟨_, rfl, ?_⟩; replace HB := Aside0.mk (hb); have HI201 := Aside0.mk (hi); have NB201_196 := Aside0.mk (IsS163.ne_blk hi (blk_below (bk BK196) hb2) (by decide)); have NB196_201 := Aside0.mk (Ne.symm (IsS163.ne_blk hi (blk_below (bk BK196) hb2) (by decide))); replace BK196 := Aside0.mk (blk_below (bk BK196) hb2); have NB201_197 := Aside0.mk (IsS163.ne_blk hi (blk_below (bk BK197) hb2) (by decide)); have NB197_201 := Aside0.mk (Ne.symm (IsS163.ne_blk hi (blk_below (bk BK197) hb2) (by decide))); replace BK197 := Aside0.mk (blk_below (bk BK197) hb2); have NB201_198 := Aside0.mk (IsS163.ne_blk hi (blk_below (bk BK198) hb2) (by decide)); have NB198_201 := Aside0.mk (Ne.symm (IsS163.ne_blk hi (blk_below (bk BK198) hb2) (by decide))); replace BK198 := Aside0.mk (blk_below (bk BK198) hb2); (try clear hb); (try clear hb2); (try clear hk); (try clear hi)) | ((with_reducible refine gate_callee (f := 98) rfl ?_); refine goesL_ (some 12) rfl rfl Tryd.func98 (by kernel_rfl) rfl #[.pointer (some ⟨g201, 0, none⟩)] rfl (by (try simp only [List.map_toArray, List.map_cons, List.map_nil]); first | done | rfl | (simp only [List.length_drop, List.length_take]; rfl)) ?_; (with_reducible refine (spec_l1Rd_decl.calls g201 t199 t200 t202 t205 t208 t211 w _ ?side1 ?side2 A3.out).mono ?_); (case side1 => repeat (first | (with_reducible first | exact HI201.out | apply IsS163.alloc | apply IsS163.drewN | apply IsS163.drew | apply IsS163.set_1 | refine IsS163.far ?_ NB201_196.out _ | refine IsS163.far ?_ NB201_197.out _ | refine IsS163.far ?_ NB201_198.out _) | exact HI201.out)); (case side2 => repeat (first | (with_reducible first | exact HB.out | apply below_alloc | apply pw_below_drewN | apply below_drew1 | refine below_set ?_ (IsS163.ge HI201.out) | refine below_set ?_ GE196.out | refine below_set ?_ GE197.out | refine below_set ?_ GE198.out) | exact HB.out)); rintro e w12 ⟨v203, v206, v209, rfl, ho0, ho1, ho2, hi, hb, hk⟩; refine ⟨_, rfl, ?_⟩; replace BK196 := Aside0.mk (KeepBut.blk hk (g' := gb196) (o := .cells #[.slice none 0 0, .slice none 0 0, .slice none 0 0] 30 (0, 0)) (bk BK196) NB196_201.out (by simp)); replace BK197 := Aside0.mk (KeepBut.blk hk (g' := gb197) (o := .cells #[.bool false, .slice none 0 0, .slice none 0 0] 41 (0, 0)) (bk BK197) NB197_201.out (by simp)); replace BK198 := Aside0.mk (KeepBut.blk hk (g' := gb198) (o := .cells #[.int .i64 0, .int .i64 0] 78 (0, 0)) (bk BK198) NB198_201.out (by simp)); have HO204 := Aside0.mk (Kd.R_lower ho0 (below_size (by repeat (first | (with_reducible first | exact HB.out | apply below_alloc | apply pw_below_drewN | apply below_drew1 | refine below_set ?_ (IsS163.ge HI201.out) | refine below_set ?_ GE196.out | refine below_set ?_ GE197.out | refine below_set ?_ GE198.out) | exact HB.out)))); have HO207 := Aside0.mk (Kd.R_lower ho1 (below_size (by repeat (first | (with_reducible first | exact HB.out | apply below_alloc | apply pw_below_drewN | apply below_drew1 | refine below_set ?_ (IsS163.ge HI201.out) | refine below_set ?_ GE196.out | refine below_set ?_ GE197.out | refine below_set ?_ GE198.out) | exact HB.out)))); have HO210 := Aside0.mk (Kd.R_lower ho2 (below_size (by repeat (first | (with_reducible first | exact HB.out | apply below_alloc | apply pw_below_drewN | apply below_drew1 | refine below_set ?_ (IsS163.ge HI201.out) | refine below_set ?_ GE196.out | refine below_set ?_ GE197.out | refine below_set ?_ GE198.out) | exact HB.out)))); replace HB := Aside0.mk (hb); replace HI201 := Aside0.mk (hi); (try clear hb); (try clear hb2); (try clear hk); (try clear hi); (try clear ho0); (try clear ho1); (try clear ho2)) | ((with_reducible refine gate_dst (N := 7) rfl ?_); refine box_event rfl rfl (cs := #[.slice none 0 0, .slice none 0 0, .slice none 0 0]) (t := 30) (by first | (go_simp; done) | (go_simp; rfl)) ?_; intro gb212 hg w13 hbox hb; replace HO204 := Aside0.mk (Kd.R_below (by (with_reducible repeat (first | apply Kd.R_alloc | apply Kd.R_drewN | apply Kd.R_drew)); exact HO204.out) hb); replace HO207 := Aside0.mk (Kd.R_below (by (with_reducible repeat (first | apply Kd.R_alloc | apply Kd.R_drewN | apply Kd.R_drew)); exact HO207.out) hb); replace HO210 := Aside0.mk (Kd.R_below (by (with_reducible repeat (first | apply Kd.R_alloc | apply Kd.R_drewN | apply Kd.R_drew)); exact HO210.out) hb); have BK212 := Aside0.mk (hbox); have GW212 := Aside0.mk ((by rw [hg]; exact (below_size (by repeat (first | (with_reducible first | exact HB.out | apply below_alloc | apply pw_below_drewN | apply below_drew1 | refine below_set ?_ (IsS163.ge HI201.out) | refine below_set ?_ GE196.out | refine below_set ?_ GE197.out | refine below_set ?_ GE198.out) | exact HB.out))) : w.heap.size ≤ gb212)); have GE212 := Aside0.mk ((by rw [hg]; exact (below_size (by repeat (first | (with_reducible first | exact HB.out | apply below_alloc | apply pw_below_drewN | apply below_drew1 | refine below_set ?_ (IsS163.ge HI201.out) | refine below_set ?_ GE196.out | refine below_set ?_ GE197.out | refine below_set ?_ GE198.out) | exact HB.out))) : w.heap.size ≤ gb212)); replace HB := Aside0.mk (below_step (by repeat (first | (with_reducible first | exact HB.out | apply below_alloc | apply pw_below_drewN | apply below_drew1 | refine below_set ?_ (IsS163.ge HI201.out) | refine below_set ?_ GE196.out | refine below_set ?_ GE197.out | refine below_set ?_ GE198.out) | exact HB.out)) hb); have NB196_212 := bl BK196 hg; have NB212_196 := bg BK196 hg; replace BK196 := bb BK196 hb; have NB197_212 := bl BK197 hg; have NB212_197 := bg BK197 hg; replace BK197 := bb BK197 hb; have NB198_212 := bl BK198 hg; have NB212_198 := bg BK198 hg; replace BK198 := bb BK198 hb; have NB201_212 := Aside0.mk ((by rw [hg]; exact Nat.ne_of_lt (IsS163.lt (show IsS163 w _ g201 t199 t211 from by repeat (first | (with_reducible first | exact HI201.out | apply IsS163.alloc | apply IsS163.drewN | apply IsS163.drew | apply IsS163.set_1 | refine IsS163.far ?_ NB201_196.out _ | refine IsS163.far ?_ NB201_197.out _ | refine IsS163.far ?_ NB201_198.out _) | exact HI201.out))) : g201 ≠ gb212)); have NB212_201 := Aside0.mk ((by rw [hg]; exact Nat.ne_of_gt (IsS163.lt (show IsS163 w _ g201 t199 t211 from by repeat (first | (with_reducible first | exact HI201.out | apply IsS163.alloc | apply IsS163.drewN | apply IsS163.drew | apply IsS163.set_1 | refine IsS163.far ?_ NB201_196.out _ | refine IsS163.far ?_ NB201_197.out _ | refine IsS163.far ?_ NB201_198.out _) | exact HI201.out))) : gb212 ≠ g201)); replace HI201 := Aside0.mk (IsS163.below (by repeat (first | (with_reducible first | exact HI201.out | apply IsS163.alloc | apply IsS163.drewN | apply IsS163.drew | apply IsS163.set_1 | refine IsS163.far ?_ NB201_196.out _ | refine IsS163.far ?_ NB201_197.out _ | refine IsS163.far ?_ NB201_198.out _) | exact HI201.out)) hb); clear hb hbox hg; obtain ⟨Ao14, co14, eo14⟩ := Kd.R_slice HO204.out; subst eo14; have hnb15 := NB212_196.out; have hnc15 := NB196_212.out; have hnb16 := NB212_197.out; have hnc16 := NB197_212.out; have hnb17 := NB212_198.out; have hnc17 := NB198_212.out; have hnb18 := NB212_201.out; have hnc18 := NB201_212.out; have hcz19_0 : w13.cell? ⟨gb212, 0, none⟩ = some (.slice none 0 0) := (blk_cell BK212.out 0).trans rfl; have hcz19_1 : w13.cell? ⟨gb212, 1, none⟩ = some (.slice none 0 0) := (blk_cell BK212.out 1).trans rfl; have hcz19_2 : w13.cell? ⟨gb212, 2, none⟩ = some (.slice none 0 0) := (blk_cell BK212.out 2).trans rfl; have hfz19_0 := blk_frozen BK212.out 0; have hfz19_1 := blk_frozen BK212.out 1; have hfz19_2 := blk_frozen BK212.out 2; obtain ⟨Ao20, co20, eo20⟩ := Kd.R_slice HO207.out; subst eo20; obtain ⟨Ao21, co21, eo21⟩ := Kd.R_slice HO210.out; subst eo21) | ((with_reducible refine gate_callee (f := 100) rfl ?_); refine goesL_ (some 16) rfl rfl Tryd.func100 (by kernel_rfl) rfl #[.pointer (some ⟨g201, 0, none⟩), .agg #[.slice Ao14 t202.length co14, .slice Ao20 t205.length co20, .slice Ao21 t208.length co21]] rfl (by (try simp only [List.map_toArray, List.map_cons, List.map_nil]); first | done | rfl | (simp only [List.length_drop, List.length_take]; rfl)) ?_; (with_reducible refine (spec_l1Rd_env.calls k g201 t199 t211 _ _ t202 _ _ t205 _ _ t208 t213 t214 t217 t220 w _ ?side1 ?side2 ?side3 ?side4 ?side5 ?side6 ?side7 ?side8 ?side9 ?side10 A4.out).mono ?_); (case side1 => repeat (first | (with_reducible first | exact HI201.out | apply IsS163.alloc | apply IsS163.drewN | apply IsS163.drew | apply IsS163.set_1 | refine IsS163.far ?_ NB201_196.out _ | refine IsS163.far ?_ NB201_197.out _ | refine IsS163.far ?_ NB201_198.out _ | refine IsS163.far ?_ NB201_212.out _) | exact HI201.out)); (case side2 => repeat (first | (with_reducible first | exact HB.out | apply below_alloc | apply pw_below_drewN | apply below_drew1 | refine below_set ?_ (IsS163.ge HI201.out) | refine below_set ?_ GE196.out | refine below_set ?_ GE197.out | refine below_set ?_ GE198.out | refine below_set ?_ GE212.out) | exact HB.out)); (case side3 => refine (Kd.R_reads' (e := 9) (base := w.heap.size) (ok := fun k_ => some k_ ≠ (.slice Ao20 t205.length co20 : Value).ownBlock) (n := t202.length) (c := co14) ?_).2.2; exact (by (with_reducible repeat (first | apply Kd.R_alloc | apply Kd.R_drewN | apply Kd.R_drew)); exact (Kd.R_mono (Kd.R_far (p := ⟨gb212, 2, none⟩) (Kd.R_far (p := ⟨gb212, 1, none⟩) (Kd.R_far (p := ⟨gb212, 0, none⟩) (Kd.R_types HO204.out BK212.out (by decide)) (fun _ hk => hk.2) (.slice Ao14 t202.length co14)) (fun _ hk => hk.2) (.slice Ao20 t205.length co20)) (fun _ hk => hk.2) (.slice Ao21 t208.length co21)) (fun _ h_ => h_.1)))); (case side4 => exact (Kd.R_reads' HO204.out).2.1); (case side5 => exact far_slice (IsS163.own_ne HI201.out HO204.out (by decide))); (case side6 => refine (Kd.R_reads' (e := 9) (base := w.heap.size) (ok := fun k_ => some k_ ≠ (.slice Ao14 t202.length co14 : Value).ownBlock) (n := t205.length) (c := co20) ?_).2.2; exact (by (with_reducible repeat (first | apply Kd.R_alloc | apply Kd.R_drewN | apply Kd.R_drew)); exact (Kd.R_mono (Kd.R_far (p := ⟨gb212, 2, none⟩) (Kd.R_far (p := ⟨gb212, 1, none⟩) (Kd.R_far (p := ⟨gb212, 0, none⟩) (Kd.R_types HO207.out BK212.out (by decide)) (fun _ hk => hk.2) (.slice Ao14 t202.length co14)) (fun _ hk => hk.2) (.slice Ao20 t205.length co20)) (fun _ hk => hk.2) (.slice Ao21 t208.length co21)) (fun _ h_ => h_.1)))); (case side7 => exact (Kd.R_reads' HO207.out).2.1); (case side8 => exact far_slice (IsS163.own_ne HI201.out HO207.out (by decide))); (case side9 => exact Kd.C_foot_own (IsS163.apart (show IsS163 w _ g201 t199 t211 from by repeat (first | (with_reducible first | exact HI201.out | apply IsS163.alloc | apply IsS163.drewN | apply IsS163.drew | apply IsS163.set_1 | refine IsS163.far ?_ NB201_196.out _ | refine IsS163.far ?_ NB201_197.out _ | refine IsS163.far ?_ NB201_198.out _ | refine IsS163.far ?_ NB201_212.out _) | exact HI201.out)) (by (with_reducible repeat (first | apply Kd.R_alloc | apply Kd.R_drewN | apply Kd.R_drew)); exact (Kd.R_mono (Kd.R_far (p := ⟨gb212, 2, none⟩) (Kd.R_far (p := ⟨gb212, 1, none⟩) (Kd.R_far (p := ⟨gb212, 0, none⟩) (Kd.R_types HO210.out BK212.out (by decide)) (fun _ hk => hk.2) (.slice Ao14 t202.length co14)) (fun _ hk => hk.2) (.slice Ao20 t205.length co20)) (fun _ hk => hk.2) (.slice Ao21 t208.length co21)) (fun _ h_ => h_.1))) (by decide)) (fun _ h_ => h_.2)); (case side10 => exact (Kd.R_reads' HO210.out).2.1); rintro e w22 ⟨v215, v218, rfl, ho0, ho1, hi, hb, hk⟩; refine ⟨_, rfl, ?_⟩; replace BK196 := Aside0.mk (KeepBut.blk hk (g' := gb196) (o := .cells #[.slice none 0 0, .slice none 0 0, .slice none 0 0] 30 (0, 0)) (bx BK196) NB196_201.out (by simp)); replace BK197 := Aside0.mk (KeepBut.blk hk (g' := gb197) (o := .cells #[.bool false, .slice none 0 0, .slice none 0 0] 41 (0, 0)) (bx BK197) NB197_201.out (by simp)); replace HO204 := Aside0.mk (Kd.R_mono (Kd.R_keep (IsS163.apart (show IsS163 w _ g201 t199 t211 from by repeat (first | (with_reducible first | exact HI201.out | apply IsS163.alloc | apply IsS163.drewN | apply IsS163.drew | apply IsS163.set_1 | refine IsS163.far ?_ NB201_196.out _ | refine IsS163.far ?_ NB201_197.out _ | refine IsS163.far ?_ NB201_198.out _ | refine IsS163.far ?_ NB201_212.out _) | exact HI201.out)) (by (with_reducible repeat (first | apply Kd.R_alloc | apply Kd.R_drewN | apply Kd.R_drew)); exact (Kd.R_mono (Kd.R_far (p := ⟨gb212, 2, none⟩) (Kd.R_far (p := ⟨gb212, 1, none⟩) (Kd.R_far (p := ⟨gb212, 0, none⟩) (Kd.R_types HO204.out BK212.out (by decide)) (fun _ hk => hk.2) (.slice Ao14 t202.length co14)) (fun _ hk => hk.2) (.slice Ao20 t205.length co20)) (fun _ hk => hk.2) (.slice Ao21 t208.length co21)) (fun _ h_ => h_.1))) (by decide)) hk (fun _ h => h.2)) (fun _ h => h.1)); replace HO207 := Aside0.mk (Kd.R_mono (Kd.R_keep (IsS163.apart (show IsS163 w _ g201 t199 t211 from by repeat (first | (with_reducible first | exact HI201.out | apply IsS163.alloc | apply IsS163.drewN | apply IsS163.drew | apply IsS163.set_1 | refine IsS163.far ?_ NB201_196.out _ | refine IsS163.far ?_ NB201_197.out _ | refine IsS163.far ?_ NB201_198.out _ | refine IsS163.far ?_ NB201_212.out _) | exact HI201.out)) (by (with_reducible repeat (first | apply Kd.R_alloc | apply Kd.R_drewN | apply Kd.R_drew)); exact (Kd.R_mono (Kd.R_far (p := ⟨gb212, 2, none⟩) (Kd.R_far (p := ⟨gb212, 1, none⟩) (Kd.R_far (p := ⟨gb212, 0, none⟩) (Kd.R_types HO207.out BK212.out (by decide)) (fun _ hk => hk.2) (.slice Ao14 t202.length co14)) (fun _ hk => hk.2) (.slice Ao20 t205.length co20)) (fun _ hk => hk.2) (.slice Ao21 t208.length co21)) (fun _ h_ => h_.1))) (by decide)) hk (fun _ h => h.2)) (fun _ h => h.1)); replace HO210 := Aside0.mk (Kd.R_mono (Kd.R_keep (IsS163.apart (show IsS163 w _ g201 t199 t211 from by repeat (first | (with_reducible first | exact HI201.out | apply IsS163.alloc | apply IsS163.drewN | apply IsS163.drew | apply IsS163.set_1 | refine IsS163.far ?_ NB201_196.out _ | refine IsS163.far ?_ NB201_197.out _ | refine IsS163.far ?_ NB201_198.out _ | refine IsS163.far ?_ NB201_212.out _) | exact HI201.out)) (by (with_reducible repeat (first | apply Kd.R_alloc | apply Kd.R_drewN | apply Kd.R_drew)); exact (Kd.R_mono (Kd.R_far (p := ⟨gb212, 2, none⟩) (Kd.R_far (p := ⟨gb212, 1, none⟩) (Kd.R_far (p := ⟨gb212, 0, none⟩) (Kd.R_types HO210.out BK212.out (by decide)) (fun _ hk => hk.2) (.slice Ao14 t202.length co14)) (fun _ hk => hk.2) (.slice Ao20 t205.length co20)) (fun _ hk => hk.2) (.slice Ao21 t208.length co21)) (fun _ h_ => h_.1))) (by decide)) hk (fun _ h => h.2)) (fun _ h => h.1)); replace BK212 := Aside0.mk (KeepBut.blk hk (g' := gb212) (o := .cells #[.slice Ao14 t202.length co14, .slice Ao20 t205.length co20, .slice Ao21 t208.length co21] 30 (0, 0)) (by (with_reducible repeat (first | refine blk_drewN ?_ _ | refine blk_drew ?_ | refine blk_alloc ?_ _)); refine blk_put (cs := #[.slice Ao14 t202.length co14, .slice Ao20 t205.length co20, .slice none 0 0]) ?_ 2 _ rfl; (with_reducible repeat (first | refine blk_drewN ?_ _ | refine blk_drew ?_ | refine blk_alloc ?_ _)); refine blk_put (cs := #[.slice Ao14 t202.length co14, .slice none 0 0, .slice none 0 0]) ?_ 1 _ rfl; (with_reducible repeat (first | refine blk_drewN ?_ _ | refine blk_drew ?_ | refine blk_alloc ?_ _)); refine blk_put (cs := #[.slice none 0 0, .slice none 0 0, .slice none 0 0]) ?_ 0 _ rfl; (with_reducible repeat (first | refine blk_drewN ?_ _ | refine blk_drew ?_ | refine blk_alloc ?_ _)); exact BK212.out) NB212_201.out (by simp)); have HO216 := Aside0.mk (Kd.R_lower (Kd.R_newB ho0 (g := gb198) (o := .cells #[.int .i64 0, .int .i64 0] 78 (0, 0)) (bx BK198)) (below_size (by repeat (first | (with_reducible first | exact HB.out | apply below_alloc | apply pw_below_drewN | apply below_drew1 | refine below_set ?_ (IsS163.ge HI201.out) | refine below_set ?_ GE196.out | refine below_set ?_ GE197.out | refine below_set ?_ GE198.out | refine below_set ?_ GE212.out) | exact HB.out)))); have HO219 := Aside0.mk (Kd.R_lower (Kd.R_newB ho1 (g := gb198) (o := .cells #[.int .i64 0, .int .i64 0] 78 (0, 0)) (bx BK198)) (below_size (by repeat (first | (with_reducible first | exact HB.out | apply below_alloc | apply pw_below_drewN | apply below_drew1 | refine below_set ?_ (IsS163.ge HI201.out) | refine below_set ?_ GE196.out | refine below_set ?_ GE197.out | refine below_set ?_ GE198.out | refine below_set ?_ GE212.out) | exact HB.out)))); replace BK198 := Aside0.mk (KeepBut.blk hk (g' := gb198) (o := .cells #[.int .i64 0, .int .i64 0] 78 (0, 0)) (bx BK198) NB198_201.out (by simp)); replace HB := Aside0.mk (hb); replace HI201 := Aside0.mk (hi); (try clear hb); (try clear hb2); (try clear hk); (try clear hi); (try clear ho0); (try clear ho1); obtain ⟨Ao23, co23, eo23⟩ := Kd.R_slice HO216.out; subst eo23; obtain ⟨Ao24, co24, eo24⟩ := Kd.R_slice HO219.out; subst eo24) | ((with_reducible refine gate_callee (f := 99) rfl ?_); refine goesL_ (some 17) rfl rfl Tryd.func99 (by kernel_rfl) rfl #[.pointer (some ⟨g201, 0, none⟩), .agg #[.bool t213, .slice Ao23 t214.length co23, .slice Ao24 t217.length co24]] rfl (by (try simp only [List.map_toArray, List.map_cons, List.map_nil]); first | done | rfl | (simp only [List.length_drop, List.length_take]; rfl)) ?_; (with_reducible refine (spec_l1Rd_hurtEnv.calls g201 t199 t220 t213 (fun k_ => some k_ = (.slice Ao23 t214.length co23 : Value).ownBlock) (.slice Ao23 t214.length co23) t214 (fun k_ => some k_ = (.slice Ao24 t217.length co24 : Value).ownBlock) (.slice Ao24 t217.length co24) t217 t221 t222 t225 t228 w _ ?side1 ?side2 ?side3 ?side4 ?side5 ?side6 A5.out).mono ?_); (case side1 => repeat (first | (with_reducible first | exact HI201.out | apply IsS163.alloc | apply IsS163.drewN | apply IsS163.drew | apply IsS163.set_1 | refine IsS163.far ?_ NB201_196.out _ | refine IsS163.far ?_ NB201_197.out _ | refine IsS163.far ?_ NB201_198.out _ | refine IsS163.far ?_ NB201_212.out _) | exact HI201.out)); (case side2 => repeat (first | (with_reducible first | exact HB.out | apply below_alloc | apply pw_below_drewN | apply below_drew1 | refine below_set ?_ (IsS163.ge HI201.out) | refine below_set ?_ GE196.out | refine below_set ?_ GE197.out | refine below_set ?_ GE198.out | refine below_set ?_ GE212.out) | exact HB.out)); (case side3 => exact Kd.R_tight rfl HO216.out); (case side4 => exact fun k_ e_ => (HO216.out.1 k_ e_.symm).1); (case side5 => exact Kd.R_tight rfl HO219.out); (case side6 => exact fun k_ e_ => (HO219.out.1 k_ e_.symm).1); rintro e w25 ⟨v223, v226, rfl, ho0, ho1, hi, hb, hkp⟩; refine ⟨_, rfl, ?_⟩; have n0_ := Aside0.mk (blk_kept (bk BK196) hkp (fun hs_ => Or.elim hs_ (fun hs_ => Or.elim hs_ (fun e_ => (fun e_ => (Kd.R_ne HO216.out BK196.out (by decide)) e_) e_) (fun e_ => (fun e_ => (Kd.R_ne HO219.out BK196.out (by decide)) e_) e_)) (fun e_ => NB196_201.out e_))); have n1_ := Aside0.mk (blk_kept (bk BK197) hkp (fun hs_ => Or.elim hs_ (fun hs_ => Or.elim hs_ (fun e_ => (fun e_ => (Kd.R_ne HO216.out BK197.out (by decide)) e_) e_) (fun e_ => (fun e_ => (Kd.R_ne HO219.out BK197.out (by decide)) e_) e_)) (fun e_ => NB197_201.out e_))); have n2_ := Aside0.mk (blk_kept (bk BK198) hkp (fun hs_ => Or.elim hs_ (fun hs_ => Or.elim hs_ (fun e_ => (fun e_ => (Kd.R_away HO216.out (fun _ hk => hk.2)) e_) e_) (fun e_ => (fun e_ => (Kd.R_away HO219.out (fun _ hk => hk.2)) e_) e_)) (fun e_ => NB198_201.out e_))); have n3_ := Aside0.mk (hi); have n4_ := Aside0.mk (Kd.R_mono (ok' := fun k_ => some k_ ≠ (.slice Ao20 t205.length co20 : Value).ownBlock) (Kd.R_keptB ((IsS163.apart HI201.out (Kd.R_apart' (Kd.R_apart' HO204.out (Kd.R_typed HO216.out) (by decide)) (Kd.R_typed HO219.out) (by decide)) (by decide))) hkp (fun k_ hk_ hs_ => Or.elim hs_ (fun hs_ => Or.elim hs_ (fun e_ => (hk_.1.1.2) e_) (fun e_ => (hk_.1.2) e_)) (fun e_ => (hk_.2) e_))) (fun k_ hk_ => hk_.1.1.1.1)); have n5_ := Aside0.mk (Kd.R_mono (ok' := fun k_ => some k_ ≠ (.slice Ao14 t202.length co14 : Value).ownBlock) (Kd.R_keptB ((IsS163.apart HI201.out (Kd.R_apart' (Kd.R_apart' HO207.out (Kd.R_typed HO216.out) (by decide)) (Kd.R_typed HO219.out) (by decide)) (by decide))) hkp (fun k_ hk_ hs_ => Or.elim hs_ (fun hs_ => Or.elim hs_ (fun e_ => (hk_.1.1.2) e_) (fun e_ => (hk_.1.2) e_)) (fun e_ => (hk_.2) e_))) (fun k_ hk_ => hk_.1.1.1.1)); have n6_ := Aside0.mk (Kd.R_mono (ok' := fun k_ => True) (Kd.R_keptB ((IsS163.apart HI201.out (Kd.R_apart' (Kd.R_apart' HO210.out (Kd.R_typed HO216.out) (by decide)) (Kd.R_typed HO219.out) (by decide)) (by decide))) hkp (fun k_ hk_ hs_ => Or.elim hs_ (fun hs_ => Or.elim hs_ (fun e_ => (hk_.1.1.2) e_) (fun e_ => (hk_.1.2) e_)) (fun e_ => (hk_.2) e_))) (fun k_ hk_ => trivial)); have n7_ := Aside0.mk (blk_kept (bk BK212) hkp (fun hs_ => Or.elim hs_ (fun hs_ => Or.elim hs_ (fun e_ => (fun e_ => (Kd.R_ne HO216.out BK212.out (by decide)) e_) e_) (fun e_ => (fun e_ => (Kd.R_ne HO219.out BK212.out (by decide)) e_) e_)) (fun e_ => NB212_201.out e_))); have n8_ := Aside0.mk (Kd.R_mono (ok' := fun k_ => some k_ ≠ (v226 : Value).ownBlock ∧ k_ ≠ gb198) ho0 (fun k_ hk_ => ⟨hk_.2, Or.elim hk_.1 (fun hs_ => Or.elim hs_ (fun hs_ => fun e_ => (Kd.R_away HO216.out (fun _ hk => hk.2)) (by rw [← e_]; exact hs_)) (fun hs_ => fun e_ => (Kd.R_away HO219.out (fun _ hk => hk.2)) (by rw [← e_]; exact hs_))) (fun hn_ => (Kd.freshB (bk BK198) k_ hn_))⟩)); have n9_ := Aside0.mk (Kd.R_mono (ok' := fun k_ => some k_ ≠ (v223 : Value).ownBlock ∧ k_ ≠ gb198) ho1 (fun k_ hk_ => ⟨hk_.2, Or.elim hk_.1 (fun hs_ => Or.elim hs_ (fun hs_ => fun e_ => (Kd.R_away HO216.out (fun _ hk => hk.2)) (by rw [← e_]; exact hs_)) (fun hs_ => fun e_ => (Kd.R_away HO219.out (fun _ hk => hk.2)) (by rw [← e_]; exact hs_))) (fun hn_ => (Kd.freshB (bk BK198) k_ hn_))⟩)); have n10_ := Aside0.mk (hb); clear BK196; clear BK197; clear BK198; clear HI201; clear HO204; clear HO207; clear HO210; clear BK212; clear HB; clear HO216; clear HO219; have BK196 := n0_; have BK197 := n1_; have BK198 := n2_; have HI201 := n3_; have HO204 := n4_; have HO207 := n5_; have HO210 := n6_; have BK212 := n7_; have HO224 := n8_; have HO227 := n9_; have HB := n10_; clear n0_ n1_ n2_ n3_ n4_ n5_ n6_ n7_ n8_ n9_ n10_; (try clear hb); (try clear hkp); (try clear ho0); (try clear ho1)) | ((with_reducible refine gate_dst (N := 8) rfl ?_); refine box_event rfl rfl (cs := #[.bool false, .slice none 0 0, .slice none 0 0]) (t := 41) (by first | (go_simp; done) | (go_simp; rfl)) ?_; intro gb229 hg w26 hbox hb; replace HO204 := Aside0.mk (Kd.R_below (by (with_reducible repeat (first | apply Kd.R_alloc | apply Kd.R_drewN | apply Kd.R_drew)); exact HO204.out) hb); replace HO207 := Aside0.mk (Kd.R_below (by (with_reducible repeat (first | apply Kd.R_alloc | apply Kd.R_drewN | apply Kd.R_drew)); exact HO207.out) hb); replace HO210 := Aside0.mk (Kd.R_below (by (with_reducible repeat (first | apply Kd.R_alloc | apply Kd.R_drewN | apply Kd.R_drew)); exact HO210.out) hb); replace HO224 := Aside0.mk (Kd.R_below (by (with_reducible repeat (first | apply Kd.R_alloc | apply Kd.R_drewN | apply Kd.R_drew)); exact HO224.out) hb); replace HO227 := Aside0.mk (Kd.R_below (by (with_reducible repeat (first | apply Kd.R_alloc | apply Kd.R_drewN | apply Kd.R_drew)); exact HO227.out) hb); have BK229 := Aside0.mk (hbox); have GW229 := Aside0.mk ((by rw [hg]; exact (below_size (by repeat (first | (with_reducible first | exact HB.out | apply below_alloc | apply pw_below_drewN | apply below_drew1 | refine below_set ?_ (IsS163.ge HI201.out) | refine below_set ?_ GE196.out | refine below_set ?_ GE197.out | refine below_set ?_ GE198.out | refine below_set ?_ GE212.out) | exact HB.out))) : w.heap.size ≤ gb229)); have GE229 := Aside0.mk ((by rw [hg]; exact (below_size (by repeat (first | (with_reducible first | exact HB.out | apply below_alloc | apply pw_below_drewN | apply below_drew1 | refine below_set ?_ (IsS163.ge HI201.out) | refine below_set ?_ GE196.out | refine below_set ?_ GE197.out | refine below_set ?_ GE198.out | refine below_set ?_ GE212.out) | exact HB.out))) : w.heap.size ≤ gb229)); replace HB := Aside0.mk (below_step (by repeat (first | (with_reducible first | exact HB.out | apply below_alloc | apply pw_below_drewN | apply below_drew1 | refine below_set ?_ (IsS163.ge HI201.out) | refine below_set ?_ GE196.out | refine below_set ?_ GE197.out | refine below_set ?_ GE198.out | refine below_set ?_ GE212.out) | exact HB.out)) hb); have NB196_229 := bl BK196 hg; have NB229_196 := bg BK196 hg; replace BK196 := bb BK196 hb; have NB197_229 := bl BK197 hg; have NB229_197 := bg BK197 hg; replace BK197 := bb BK197 hb; have NB198_229 := bl BK198 hg; have NB229_198 := bg BK198 hg; replace BK198 := bb BK198 hb; have NB212_229 := bl BK212 hg; have NB229_212 := bg BK212 hg; replace BK212 := bb BK212 hb; have NB201_229 := Aside0.mk ((by rw [hg]; exact Nat.ne_of_lt (IsS163.lt (show IsS163 w _ g201 t199 t228 from by repeat (first | (with_reducible first | exact HI201.out | apply IsS163.alloc | apply IsS163.drewN | apply IsS163.drew | apply IsS163.set_1 | refine IsS163.far ?_ NB201_196.out _ | refine IsS163.far ?_ NB201_197.out _ | refine IsS163.far ?_ NB201_198.out _ | refine IsS163.far ?_ NB201_212.out _) | exact HI201.out))) : g201 ≠ gb229)); have NB229_201 := Aside0.mk ((by rw [hg]; exact Nat.ne_of_gt (IsS163.lt (show IsS163 w _ g201 t199 t228 from by repeat (first | (with_reducible first | exact HI201.out | apply IsS163.alloc | apply IsS163.drewN | apply IsS163.drew | apply IsS163.set_1 | refine IsS163.far ?_ NB201_196.out _ | refine IsS163.far ?_ NB201_197.out _ | refine IsS163.far ?_ NB201_198.out _ | refine IsS163.far ?_ NB201_212.out _) | exact HI201.out))) : gb229 ≠ g201)); replace HI201 := Aside0.mk (IsS163.below (by repeat (first | (with_reducible first | exact HI201.out | apply IsS163.alloc | apply IsS163.drewN | apply IsS163.drew | apply IsS163.set_1 | refine IsS163.far ?_ NB201_196.out _ | refine IsS163.far ?_ NB201_197.out _ | refine IsS163.far ?_ NB201_198.out _ | refine IsS163.far ?_ NB201_212.out _) | exact HI201.out)) hb); clear hb hbox hg; have hnb27 := NB229_196.out; have hnc27 := NB196_229.out; have hnb28 := NB229_197.out; have hnc28 := NB197_229.out; have hnb29 := NB229_198.out; have hnc29 := NB198_229.out; have hnb30 := NB229_212.out; have hnc30 := NB212_229.out; have hnb31 := NB229_201.out; have hnc31 := NB201_229.out; have hcz32_0 : w26.cell? ⟨gb229, 0, none⟩ = some (.bool false) := (blk_cell BK229.out 0).trans rfl; have hcz32_1 : w26.cell? ⟨gb229, 1, none⟩ = some (.slice none 0 0) := (blk_cell BK229.out 1).trans rfl; have hcz32_2 : w26.cell? ⟨gb229, 2, none⟩ = some (.slice none 0 0) := (blk_cell BK229.out 2).trans rfl; have hfz32_0 := blk_frozen BK229.out 0; have hfz32_1 := blk_frozen BK229.out 1; have hfz32_2 := blk_frozen BK229.out 2; obtain ⟨Ao33, co33, eo33⟩ := Kd.R_slice HO224.out; subst eo33; obtain ⟨Ao34, co34, eo34⟩ := Kd.R_slice HO227.out; subst eo34))
 have n0_ : Aside0 (Kd.R Kd.string 9 (((w26.setCell ⟨gb229, 0, none⟩ (.bool t221)).setCell ⟨gb229, 1, none⟩ (.slice Ao33 t222.length co33)).setCell ⟨gb229, 2, none⟩ (.slice Ao34 t225.length co34)) w.heap.size (fun k_ => some k_ ≠ (.slice Ao20 t205.length co20 : Value).ownBlock) (.slice Ao14 t202.length co14) t202) := ⟨by (with_reducible repeat (first | apply Kd.R_alloc | apply Kd.R_drewN | apply Kd.R_drew)); exact Kd.R_mono (Kd.R_far (p := ⟨gb229, 2, none⟩) (Kd.R_far (p := ⟨gb229, 1, none⟩) (Kd.R_far (p := ⟨gb229, 0, none⟩) (Kd.R_types HO204.out BK229.out (by decide)) (fun _ hk => hk.2) (.bool t221)) (fun _ hk => hk.2) (.slice Ao33 t222.length co33)) (fun _ hk => hk.2) (.slice Ao34 t225.length co34)) (fun _ hk => hk.1)⟩
 have n1_ : Aside0 (Kd.R Kd.string 9 (((w26.setCell ⟨gb229, 0, none⟩ (.bool t221)).setCell ⟨gb229, 1, none⟩ (.slice Ao33 t222.length co33)).setCell ⟨gb229, 2, none⟩ (.slice Ao34 t225.length co34)) w.heap.size (fun k_ => some k_ ≠ (.slice Ao14 t202.length co14 : Value).ownBlock) (.slice Ao20 t205.length co20) t205) := ⟨by (with_reducible repeat (first | apply Kd.R_alloc | apply Kd.R_drewN | apply Kd.R_drew)); exact Kd.R_mono (Kd.R_far (p := ⟨gb229, 2, none⟩) (Kd.R_far (p := ⟨gb229, 1, none⟩) (Kd.R_far (p := ⟨gb229, 0, none⟩) (Kd.R_types HO207.out BK229.out (by decide)) (fun _ hk => hk.2) (.bool t221)) (fun _ hk => hk.2) (.slice Ao33 t222.length co33)) (fun _ hk => hk.2) (.slice Ao34 t225.length co34)) (fun _ hk => hk.1)⟩
 have n2_ : Aside0 (Kd.R k91 91 (((w26.setCell ⟨gb229, 0, none⟩ (.bool t221)).setCell ⟨gb229, 1, none⟩ (.slice Ao33 t222.length co33)).setCell ⟨gb229, 2, none⟩ (.slice Ao34 t225.length co34)) w.heap.size (fun _ => True) (.slice Ao21 t208.length co21) t208) := ⟨by (with_reducible repeat (first | apply Kd.R_alloc | apply Kd.R_drewN | apply Kd.R_drew)); exact Kd.R_mono (Kd.R_far (p := ⟨gb229, 2, none⟩) (Kd.R_far (p := ⟨gb229, 1, none⟩) (Kd.R_far (p := ⟨gb229, 0, none⟩) (Kd.R_types HO210.out BK229.out (by decide)) (fun _ hk => hk.2) (.bool t221)) (fun _ hk => hk.2) (.slice Ao33 t222.length co33)) (fun _ hk => hk.2) (.slice Ao34 t225.length co34)) (fun _ hk => trivial)⟩
 have n3_ : Aside0 (Kd.R k78 78 (((w26.setCell ⟨gb229, 0, none⟩ (.bool t221)).setCell ⟨gb229, 1, none⟩ (.slice Ao33 t222.length co33)).setCell ⟨gb229, 2, none⟩ (.slice Ao34 t225.length co34)) w.heap.size (fun k_ => some k_ ≠ (.slice Ao34 t225.length co34 : Value).ownBlock ∧ k_ ≠ gb198) (.slice Ao33 t222.length co33) t222) := ⟨by (with_reducible repeat (first | apply Kd.R_alloc | apply Kd.R_drewN | apply Kd.R_drew)); exact Kd.R_mono (Kd.R_far (p := ⟨gb229, 2, none⟩) (Kd.R_far (p := ⟨gb229, 1, none⟩) (Kd.R_far (p := ⟨gb229, 0, none⟩) (Kd.R_types HO224.out BK229.out (by decide)) (fun _ hk => hk.2) (.bool t221)) (fun _ hk => hk.2) (.slice Ao33 t222.length co33)) (fun _ hk => hk.2) (.slice Ao34 t225.length co34)) (fun _ hk => ⟨hk.1.1, hk.1.2⟩)⟩
 have n4_ : Aside0 (Kd.R k78 78 (((w26.setCell ⟨gb229, 0, none⟩ (.bool t221)).setCell ⟨gb229, 1, none⟩ (.slice Ao33 t222.length co33)).setCell ⟨gb229, 2, none⟩ (.slice Ao34 t225.length co34)) w.heap.size (fun k_ => some k_ ≠ (.slice Ao33 t222.length co33 : Value).ownBlock ∧ k_ ≠ gb198) (.slice Ao34 t225.length co34) t225) := ⟨by (with_reducible repeat (first | apply Kd.R_alloc | apply Kd.R_drewN | apply Kd.R_drew)); exact Kd.R_mono (Kd.R_far (p := ⟨gb229, 2, none⟩) (Kd.R_far (p := ⟨gb229, 1, none⟩) (Kd.R_far (p := ⟨gb229, 0, none⟩) (Kd.R_types HO227.out BK229.out (by decide)) (fun _ hk => hk.2) (.bool t221)) (fun _ hk => hk.2) (.slice Ao33 t222.length co33)) (fun _ hk => hk.2) (.slice Ao34 t225.length co34)) (fun _ hk => ⟨hk.1.1, hk.1.2⟩)⟩
 have n5_ : Aside0 ((((w26.setCell ⟨gb229, 0, none⟩ (.bool t221)).setCell ⟨gb229, 1, none⟩ (.slice Ao33 t222.length co33)).setCell ⟨gb229, 2, none⟩ (.slice Ao34 t225.length co34)).heap[gb196]? = some (.cells #[.slice none 0 0, .slice none 0 0, .slice none 0 0] 30 (0, 0))) := ⟨bx BK196⟩
 have n6_ : Aside0 ((((w26.setCell ⟨gb229, 0, none⟩ (.bool t221)).setCell ⟨gb229, 1, none⟩ (.slice Ao33 t222.length co33)).setCell ⟨gb229, 2, none⟩ (.slice Ao34 t225.length co34)).heap[gb197]? = some (.cells #[.bool false, .slice none 0 0, .slice none 0 0] 41 (0, 0))) := ⟨bx BK197⟩
 have n7_ : Aside0 ((((w26.setCell ⟨gb229, 0, none⟩ (.bool t221)).setCell ⟨gb229, 1, none⟩ (.slice Ao33 t222.length co33)).setCell ⟨gb229, 2, none⟩ (.slice Ao34 t225.length co34)).heap[gb198]? = some (.cells #[.int .i64 0, .int .i64 0] 78 (0, 0))) := ⟨bx BK198⟩
 have n8_ : Aside0 ((((w26.setCell ⟨gb229, 0, none⟩ (.bool t221)).setCell ⟨gb229, 1, none⟩ (.slice Ao33 t222.length co33)).setCell ⟨gb229, 2, none⟩ (.slice Ao34 t225.length co34)).heap[gb212]? = some (.cells #[.slice Ao14 t202.length co14, .slice Ao20 t205.length co20, .slice Ao21 t208.length co21] 30 (0, 0))) := ⟨bx BK212⟩
 have n9_ : Aside0 ((((w26.setCell ⟨gb229, 0, none⟩ (.bool t221)).setCell ⟨gb229, 1, none⟩ (.slice Ao33 t222.length co33)).setCell ⟨gb229, 2, none⟩ (.slice Ao34 t225.length co34)).heap[gb229]? = some (.cells #[.bool t221, .slice Ao33 t222.length co33, .slice Ao34 t225.length co34] 41 (0, 0))) := ⟨by (with_reducible repeat (first | refine blk_drewN ?_ _ | refine blk_drew ?_ | refine blk_alloc ?_ _)); refine blk_put (cs := #[.bool t221, .slice Ao33 t222.length co33, .slice none 0 0]) ?_ 2 _ rfl; (with_reducible repeat (first | refine blk_drewN ?_ _ | refine blk_drew ?_ | refine blk_alloc ?_ _)); refine blk_put (cs := #[.bool t221, .slice none 0 0, .slice none 0 0]) ?_ 1 _ rfl; (with_reducible repeat (first | refine blk_drewN ?_ _ | refine blk_drew ?_ | refine blk_alloc ?_ _)); refine blk_put (cs := #[.bool false, .slice none 0 0, .slice none 0 0]) ?_ 0 _ rfl; (with_reducible repeat (first | refine blk_drewN ?_ _ | refine blk_drew ?_ | refine blk_alloc ?_ _)); exact BK229.out⟩
 have n10_ : Aside0 (IsS163 w (((w26.setCell ⟨gb229, 0, none⟩ (.bool t221)).setCell ⟨gb229, 1, none⟩ (.slice Ao33 t222.length co33)).setCell ⟨gb229, 2, none⟩ (.slice Ao34 t225.length co34)) g201 t199 t228) := ⟨by repeat (first | (with_reducible first | exact HI201.out | apply IsS163.alloc | apply IsS163.drewN | apply IsS163.drew | apply IsS163.set_1 | refine IsS163.far ?_ NB201_196.out _ | refine IsS163.far ?_ NB201_197.out _ | refine IsS163.far ?_ NB201_198.out _ | refine IsS163.far ?_ NB201_212.out _ | refine IsS163.far ?_ NB201_229.out _) | exact HI201.out)⟩
 have n11_ : Aside0 (Below w.heap.size w (((w26.setCell ⟨gb229, 0, none⟩ (.bool t221)).setCell ⟨gb229, 1, none⟩ (.slice Ao33 t222.length co33)).setCell ⟨gb229, 2, none⟩ (.slice Ao34 t225.length co34))) := ⟨by repeat (first | (with_reducible first | exact HB.out | apply below_alloc | apply pw_below_drewN | apply below_drew1 | refine below_set ?_ (IsS163.ge HI201.out) | refine below_set ?_ GE196.out | refine below_set ?_ GE197.out | refine below_set ?_ GE198.out | refine below_set ?_ GE212.out | refine below_set ?_ GE229.out) | exact HB.out)⟩
 (try clear HO204)
 (try clear HO207)
 (try clear HO210)
 (try clear HO224)
 (try clear HO227)
 (try clear BK196)
 (try clear BK197)
 (try clear BK198)
 (try clear BK212)
 (try clear BK229)
 (try clear HI201)
 (try clear HB)
 generalize (((w26.setCell ⟨gb229, 0, none⟩ (.bool t221)).setCell ⟨gb229, 1, none⟩ (.slice Ao33 t222.length co33)).setCell ⟨gb229, 2, none⟩ (.slice Ao34 t225.length co34)) = w35 at n0_ n1_ n2_ n3_ n4_ n5_ n6_ n7_ n8_ n9_ n10_ n11_ ⊢
 have HO204 := n0_
 have HO207 := n1_
 have HO210 := n2_
 have HO224 := n3_
 have HO227 := n4_
 have BK196 := n5_
 have BK197 := n6_
 have BK198 := n7_
 have BK212 := n8_
 have BK229 := n9_
 have HI201 := n10_
 have HB := n11_
 clear n0_ n1_ n2_ n3_ n4_ n5_ n6_ n7_ n8_ n9_ n10_ n11_
 have n0_ := Aside0.mk (Kd.R_drew HO204.out)
 have n1_ := Aside0.mk (Kd.R_drew HO207.out)
 have n2_ := Aside0.mk (Kd.R_drew HO210.out)
 have n3_ := Aside0.mk (Kd.R_drew HO224.out)
 have n4_ := Aside0.mk (Kd.R_drew HO227.out)
 have n5_ := Aside0.mk (blk_drew BK196.out)
 have n6_ := Aside0.mk (blk_drew BK197.out)
 have n7_ := Aside0.mk (blk_drew BK198.out)
 have n8_ := Aside0.mk (blk_drew BK212.out)
 have n9_ := Aside0.mk (blk_drew BK229.out)
 have n10_ := Aside0.mk (IsS163.drew HI201.out)
 have n11_ := Aside0.mk (below_drew1 HB.out)
 clear HO204
 clear HO207
 clear HO210
 clear HO224
 clear HO227
 clear BK196
 clear BK197
 clear BK198
 clear BK212
 clear BK229
 clear HI201
 clear HB
 have HO204 := n0_
 have HO207 := n1_
 have HO210 := n2_
 have HO224 := n3_
 have HO227 := n4_
 have BK196 := n5_
 have BK197 := n6_
 have BK198 := n7_
 have BK212 := n8_
 have BK229 := n9_
 have HI201 := n10_
 have HB := n11_
 clear n0_ n1_ n2_ n3_ n4_ n5_ n6_ n7_ n8_ n9_ n10_ n11_
 refine start_ (n := 14) (S := fun w' => w'.cell? ⟨gb212, 0, none⟩ = some (.slice Ao14 t202.length co14) ∧ w'.cell? ⟨gb212, 1, none⟩ = some (.slice Ao20 t205.length co20) ∧ w'.cell? ⟨gb212, 2, none⟩ = some (.slice Ao21 t208.length co21) ∧ w'.cell? ⟨gb229, 0, none⟩ = some (.bool t221) ∧ w'.cell? ⟨gb229, 1, none⟩ = some (.slice Ao33 t222.length co33) ∧ w'.cell? ⟨gb229, 2, none⟩ = some (.slice Ao34 t225.length co34)) (ds := []) #[false, false, false, false, false, false, false, false, false, false, false, false, false, false] (by kernel_rfl) rfl rfl ⟨(blk_cell BK212.out 0).trans rfl, (blk_cell BK212.out 1).trans rfl, (blk_cell BK212.out 2).trans rfl, (blk_cell BK229.out 0).trans rfl, (blk_cell BK229.out 1).trans rfl, (blk_cell BK229.out 2).trans rfl⟩ (fun hHeld => ?_); refine with_tabW spec_DrawEnvSet.tab4 spec_DrawEnvSet.bits4 (fun HT_ HW_ => ?_)
 generalize w35.drew = w36 at HO204 HO207 HO210 HO224 HO227 BK196 BK197 BK198 BK212 BK229 HI201 HB hHeld ⊢
 refine pure_ (i := 2) (N := some 20) (v := ?_) (a' := ?_) #[false, false, true, false, false, false, false, false, false, false, false, false, false, false] rfl rfl (any_of HT_.out (by kernel_rfl)) (fun _ _ _ h => h) (Or.inl ⟨by rfl, ?_⟩) ?_ ?_
 rotate_left
 ·intro w'
  go_simp
  with_reducible rfl
 rotate_left
 ·simp only [Act.put, List.setIfInBounds_toArray, List.set_cons_zero, List.set_cons_succ, i64_w, i32_w]
  rfl
 refine pure_ (i := 3) (N := some 21) (v := ?_) (a' := ?_) #[false, false, true, true, false, false, false, false, false, false, false, false, false, false] rfl rfl (any_of HT_.out (by kernel_rfl)) (fun _ _ _ h => h) (Or.inl ⟨by rfl, ?_⟩) ?_ ?_
 rotate_left
 ·intro w'
  go_simp
  with_reducible rfl
 rotate_left
 ·simp only [Act.put, List.setIfInBounds_toArray, List.set_cons_zero, List.set_cons_succ, i64_w, i32_w]
  rfl
 refine pure_ (i := 8) (N := some 26) (v := ?_) (a' := ?_) #[false, false, true, true, false, false, false, false, true, false, false, false, false, false] rfl rfl (any_of HT_.out (by kernel_rfl)) (fun _ _ _ h => h) (Or.inl ⟨by rfl, ?_⟩) ?_ ?_
 rotate_left
 ·intro w'
  go_simp
  with_reducible rfl
 rotate_left
 ·simp only [Act.put, List.setIfInBounds_toArray, List.set_cons_zero, List.set_cons_succ, i64_w, i32_w]
  rfl
 refine take_ (i := 0) (N := some 18) (v := ?_) (a' := ?_) #[true, false, true, true, false, false, false, false, true, false, false, false, false, false] rfl rfl (take_ofW HT_.out HW_.out (by kernel_rfl)) (fun _ _ _ h => h) (Or.inl ⟨by rfl, ?_⟩) hHeld ?_ ?_
 rotate_left
 ·rintro w' ⟨s0, s1, s2, s3, s4, s5⟩
  go_simp
  with_reducible rfl
 rotate_left
 ·simp only [Act.put, List.setIfInBounds_toArray, List.set_cons_zero, List.set_cons_succ, i64_w, i32_w]
  rfl
 refine take_ (i := 1) (N := some 19) (v := ?_) (a' := ?_) #[true, true, true, true, false, false, false, false, true, false, false, false, false, false] rfl rfl (take_ofW HT_.out HW_.out (by kernel_rfl)) (fun _ _ _ h => h) (Or.inl ⟨by rfl, ?_⟩) hHeld ?_ ?_
 rotate_left
 ·rintro w' ⟨s0, s1, s2, s3, s4, s5⟩
  go_simp
  with_reducible rfl
 rotate_left
 ·simp only [Act.put, List.setIfInBounds_toArray, List.set_cons_zero, List.set_cons_succ, i64_w, i32_w]
  rfl
 refine take_ (i := 4) (N := some 22) (v := ?_) (a' := ?_) #[true, true, true, true, true, false, false, false, true, false, false, false, false, false] rfl rfl (take_ofW HT_.out HW_.out (by kernel_rfl)) (fun _ _ _ h => h) (Or.inl ⟨by rfl, ?_⟩) hHeld ?_ ?_
 rotate_left
 ·rintro w' ⟨s0, s1, s2, s3, s4, s5⟩
  go_simp
  with_reducible rfl
 rotate_left
 ·simp only [Act.put, List.setIfInBounds_toArray, List.set_cons_zero, List.set_cons_succ, i64_w, i32_w]
  rfl
 refine pure_ (i := 5) (N := some 23) (v := ?_) (a' := ?_) #[true, true, true, true, true, true, false, false, true, false, false, false, false, false] rfl rfl (any_of HT_.out (by kernel_rfl)) (fun _ _ _ h => h) (Or.inl ⟨by rfl, ?_⟩) ?_ ?_
 rotate_left
 ·intro w'
  go_simp
  with_reducible rfl
 rotate_left
 ·simp only [Act.put, List.setIfInBounds_toArray, List.set_cons_zero, List.set_cons_succ, i64_w, i32_w]
  rfl
 refine pure_ (i := 6) (N := some 24) (v := ?_) (a' := ?_) #[true, true, true, true, true, true, true, false, true, false, false, false, false, false] rfl rfl (any_of HT_.out (by kernel_rfl)) (fun _ _ _ h => h) (Or.inl ⟨by rfl, ?_⟩) ?_ ?_
 rotate_left
 ·intro w'
  go_simp
  with_reducible rfl
 rotate_left
 ·simp only [Act.put, List.setIfInBounds_toArray, List.set_cons_zero, List.set_cons_succ, i64_w, i32_w]
  rfl
 refine one_ (i := 7) (N := some 25) #[true, true, true, true, true, true, true, true, true, false, false, false, false, false] rfl rfl (one_of HT_.out (by kernel_rfl)) (by decide) (fun K hK => ?_)
 refine goes_ Tryd.func101 (by kernel_rfl) rfl #[.pointer (some ⟨g201, 0, none⟩), .int .i64 0, .int .i64 (wrap64 ((t202.length : Int) - 1))] (by rfl) rfl rfl (by (try simp only [List.map_toArray, List.map_cons, List.map_nil]); first | done | rfl | (simp only [List.length_drop, List.length_take]; rfl)) ?_
 with_reducible refine (spec_l1Rd_off.calls k g201 t199 t228 0 (wrap64 ((t202.length : Int) - 1)) t230 t231 w _ ?side1 ?side2 A6.out).mono ?_
 (case side1 => repeat (first | (with_reducible first | exact HI201.out | apply IsS163.alloc | apply IsS163.drewN | apply IsS163.drew | apply IsS163.set_1 | refine IsS163.far ?_ NB201_196.out _ | refine IsS163.far ?_ NB201_197.out _ | refine IsS163.far ?_ NB201_198.out _ | refine IsS163.far ?_ NB201_212.out _ | refine IsS163.far ?_ NB201_229.out _) | exact HI201.out))
 (case side2 => repeat (first | (with_reducible first | exact HB.out | apply below_alloc | apply pw_below_drewN | apply below_drew1 | refine below_set ?_ (IsS163.ge HI201.out) | refine below_set ?_ GE196.out | refine below_set ?_ GE197.out | refine below_set ?_ GE198.out | refine below_set ?_ GE212.out | refine below_set ?_ GE229.out) | exact HB.out))
 rintro e w37 ⟨rfl, hi, hb, hk⟩
 refine ⟨_, rfl, ?_⟩
 have n0_ := Aside0.mk (KeepBut.blk hk (g' := gb196) (o := .cells #[.slice none 0 0, .slice none 0 0, .slice none 0 0] 30 (0, 0)) (bk BK196) NB196_201.out (by simp))
 have n1_ := Aside0.mk (KeepBut.blk hk (g' := gb197) (o := .cells #[.bool false, .slice none 0 0, .slice none 0 0] 41 (0, 0)) (bk BK197) NB197_201.out (by simp))
 have n2_ := Aside0.mk (KeepBut.blk hk (g' := gb198) (o := .cells #[.int .i64 0, .int .i64 0] 78 (0, 0)) (bk BK198) NB198_201.out (by simp))
 have n3_ := Aside0.mk (Kd.R_mono (Kd.R_keep (IsS163.apart (show IsS163 w _ g201 t199 t228 from by repeat (first | (with_reducible first | exact HI201.out | apply IsS163.alloc | apply IsS163.drewN | apply IsS163.drew | apply IsS163.set_1 | refine IsS163.far ?_ NB201_196.out _ | refine IsS163.far ?_ NB201_197.out _ | refine IsS163.far ?_ NB201_198.out _ | refine IsS163.far ?_ NB201_212.out _ | refine IsS163.far ?_ NB201_229.out _) | exact HI201.out)) (by (with_reducible repeat (first | apply Kd.R_alloc | apply Kd.R_drewN | apply Kd.R_drew)); exact HO204.out) (by decide)) hk (fun _ h => h.2)) (fun _ h => h.1))
 have n4_ := Aside0.mk (Kd.R_mono (Kd.R_keep (IsS163.apart (show IsS163 w _ g201 t199 t228 from by repeat (first | (with_reducible first | exact HI201.out | apply IsS163.alloc | apply IsS163.drewN | apply IsS163.drew | apply IsS163.set_1 | refine IsS163.far ?_ NB201_196.out _ | refine IsS163.far ?_ NB201_197.out _ | refine IsS163.far ?_ NB201_198.out _ | refine IsS163.far ?_ NB201_212.out _ | refine IsS163.far ?_ NB201_229.out _) | exact HI201.out)) (by (with_reducible repeat (first | apply Kd.R_alloc | apply Kd.R_drewN | apply Kd.R_drew)); exact HO207.out) (by decide)) hk (fun _ h => h.2)) (fun _ h => h.1))
 have n5_ := Aside0.mk (Kd.R_mono (Kd.R_keep (IsS163.apart (show IsS163 w _ g201 t199 t228 from by repeat (first | (with_reducible first | exact HI201.out | apply IsS163.alloc | apply IsS163.drewN | apply IsS163.drew | apply IsS163.set_1 | refine IsS163.far ?_ NB201_196.out _ | refine IsS163.far ?_ NB201_197.out _ | refine IsS163.far ?_ NB201_198.out _ | refine IsS163.far ?_ NB201_212.out _ | refine IsS163.far ?_ NB201_229.out _) | exact HI201.out)) (by (with_reducible repeat (first | apply Kd.R_alloc | apply Kd.R_drewN | apply Kd.R_drew)); exact HO210.out) (by decide)) hk (fun _ h => h.2)) (fun _ h => h.1))
 have n6_ := Aside0.mk (KeepBut.blk hk (g' := gb212) (o := .cells #[.slice Ao14 t202.length co14, .slice Ao20 t205.length co20, .slice Ao21 t208.length co21] 30 (0, 0)) (bk BK212) NB212_201.out (by simp))
 have n7_ := Aside0.mk (Kd.R_mono (Kd.R_keep (IsS163.apart (show IsS163 w _ g201 t199 t228 from by repeat (first | (with_reducible first | exact HI201.out | apply IsS163.alloc | apply IsS163.drewN | apply IsS163.drew | apply IsS163.set_1 | refine IsS163.far ?_ NB201_196.out _ | refine IsS163.far ?_ NB201_197.out _ | refine IsS163.far ?_ NB201_198.out _ | refine IsS163.far ?_ NB201_212.out _ | refine IsS163.far ?_ NB201_229.out _) | exact HI201.out)) (by (with_reducible repeat (first | apply Kd.R_alloc | apply Kd.R_drewN | apply Kd.R_drew)); exact HO224.out) (by decide)) hk (fun _ h => h.2)) (fun _ h => h.1))
 have n8_ := Aside0.mk (Kd.R_mono (Kd.R_keep (IsS163.apart (show IsS163 w _ g201 t199 t228 from by repeat (first | (with_reducible first | exact HI201.out | apply IsS163.alloc | apply IsS163.drewN | apply IsS163.drew | apply IsS163.set_1 | refine IsS163.far ?_ NB201_196.out _ | refine IsS163.far ?_ NB201_197.out _ | refine IsS163.far ?_ NB201_198.out _ | refine IsS163.far ?_ NB201_212.out _ | refine IsS163.far ?_ NB201_229.out _) | exact HI201.out)) (by (with_reducible repeat (first | apply Kd.R_alloc | apply Kd.R_drewN | apply Kd.R_drew)); exact HO227.out) (by decide)) hk (fun _ h => h.2)) (fun _ h => h.1))
 have n9_ := Aside0.mk (KeepBut.blk hk (g' := gb229) (o := .cells #[.bool t221, .slice Ao33 t222.length co33, .slice Ao34 t225.length co34] 41 (0, 0)) (bk BK229) NB229_201.out (by simp))
 have n10_ := Aside0.mk (hb)
 have n11_ := Aside0.mk (hi)
 clear BK196
 clear BK197
 clear BK198
 clear HO204
 clear HO207
 clear HO210
 clear BK212
 clear HO224
 clear HO227
 clear BK229
 clear HB
 clear HI201
 have BK196 := n0_
 have BK197 := n1_
 have BK198 := n2_
 have HO204 := n3_
 have HO207 := n4_
 have HO210 := n5_
 have BK212 := n6_
 have HO224 := n7_
 have HO227 := n8_
 have BK229 := n9_
 have HB := n10_
 have HI201 := n11_
 clear n0_ n1_ n2_ n3_ n4_ n5_ n6_ n7_ n8_ n9_ n10_ n11_
 (try clear hb)
 (try clear hb2)
 (try clear hk)
 (try clear hi)
 refine hK.out _ _ ⟨(blk_cell BK212.out 0).trans rfl, (blk_cell BK212.out 1).trans rfl, (blk_cell BK212.out 2).trans rfl, (blk_cell BK229.out 0).trans rfl, (blk_cell BK229.out 1).trans rfl, (blk_cell BK229.out 2).trans rfl⟩ (fun hHeld => ?_)
 clear hK K
 refine norm_ (a' := ?_) ?_ ?_
 rotate_left
 ·show Act.put _ (some 25) _ = _
  simp only [Act.put, List.setIfInBounds_toArray, List.set_cons_zero, List.set_cons_succ, i64_w, i32_w]
  rfl
 refine one_ (i := 9) (N := some 27) #[true, true, true, true, true, true, true, true, true, true, false, false, false, false] rfl rfl (one_of HT_.out (by kernel_rfl)) (by decide) (fun K hK => ?_)
 refine goes_ Tryd.func102 (by kernel_rfl) rfl #[.pointer (some ⟨g201, 0, none⟩)] (by rfl) rfl rfl (by (try simp only [List.map_toArray, List.map_cons, List.map_nil]); first | done | rfl | (simp only [List.length_drop, List.length_take]; rfl)) ?_
 with_reducible refine (spec_l1Rd_iv.calls k g201 t199 t231 t232 t233 t234 w _ ?side1 ?side2 A7.out).mono ?_
 (case side1 => repeat (first | (with_reducible first | exact HI201.out | apply IsS163.alloc | apply IsS163.drewN | apply IsS163.drew | apply IsS163.set_1 | refine IsS163.far ?_ NB201_196.out _ | refine IsS163.far ?_ NB201_197.out _ | refine IsS163.far ?_ NB201_198.out _ | refine IsS163.far ?_ NB201_212.out _ | refine IsS163.far ?_ NB201_229.out _) | exact HI201.out))
 (case side2 => repeat (first | (with_reducible first | exact HB.out | apply below_alloc | apply pw_below_drewN | apply below_drew1 | refine below_set ?_ (IsS163.ge HI201.out) | refine below_set ?_ GE196.out | refine below_set ?_ GE197.out | refine below_set ?_ GE198.out | refine below_set ?_ GE212.out | refine below_set ?_ GE229.out) | exact HB.out))
 rintro e w38 ⟨rfl, hi, hb, hk⟩
 refine ⟨_, rfl, ?_⟩
 have n0_ := Aside0.mk (KeepBut.blk hk (g' := gb196) (o := .cells #[.slice none 0 0, .slice none 0 0, .slice none 0 0] 30 (0, 0)) (bk BK196) NB196_201.out (by simp))
 have n1_ := Aside0.mk (KeepBut.blk hk (g' := gb197) (o := .cells #[.bool false, .slice none 0 0, .slice none 0 0] 41 (0, 0)) (bk BK197) NB197_201.out (by simp))
 have n2_ := Aside0.mk (KeepBut.blk hk (g' := gb198) (o := .cells #[.int .i64 0, .int .i64 0] 78 (0, 0)) (bk BK198) NB198_201.out (by simp))
 have n3_ := Aside0.mk (Kd.R_mono (Kd.R_keep (IsS163.apart (show IsS163 w _ g201 t199 t231 from by repeat (first | (with_reducible first | exact HI201.out | apply IsS163.alloc | apply IsS163.drewN | apply IsS163.drew | apply IsS163.set_1 | refine IsS163.far ?_ NB201_196.out _ | refine IsS163.far ?_ NB201_197.out _ | refine IsS163.far ?_ NB201_198.out _ | refine IsS163.far ?_ NB201_212.out _ | refine IsS163.far ?_ NB201_229.out _) | exact HI201.out)) (by (with_reducible repeat (first | apply Kd.R_alloc | apply Kd.R_drewN | apply Kd.R_drew)); exact HO204.out) (by decide)) hk (fun _ h => h.2)) (fun _ h => h.1))
 have n4_ := Aside0.mk (Kd.R_mono (Kd.R_keep (IsS163.apart (show IsS163 w _ g201 t199 t231 from by repeat (first | (with_reducible first | exact HI201.out | apply IsS163.alloc | apply IsS163.drewN | apply IsS163.drew | apply IsS163.set_1 | refine IsS163.far ?_ NB201_196.out _ | refine IsS163.far ?_ NB201_197.out _ | refine IsS163.far ?_ NB201_198.out _ | refine IsS163.far ?_ NB201_212.out _ | refine IsS163.far ?_ NB201_229.out _) | exact HI201.out)) (by (with_reducible repeat (first | apply Kd.R_alloc | apply Kd.R_drewN | apply Kd.R_drew)); exact HO207.out) (by decide)) hk (fun _ h => h.2)) (fun _ h => h.1))
 have n5_ := Aside0.mk (Kd.R_mono (Kd.R_keep (IsS163.apart (show IsS163 w _ g201 t199 t231 from by repeat (first | (with_reducible first | exact HI201.out | apply IsS163.alloc | apply IsS163.drewN | apply IsS163.drew | apply IsS163.set_1 | refine IsS163.far ?_ NB201_196.out _ | refine IsS163.far ?_ NB201_197.out _ | refine IsS163.far ?_ NB201_198.out _ | refine IsS163.far ?_ NB201_212.out _ | refine IsS163.far ?_ NB201_229.out _) | exact HI201.out)) (by (with_reducible repeat (first | apply Kd.R_alloc | apply Kd.R_drewN | apply Kd.R_drew)); exact HO210.out) (by decide)) hk (fun _ h => h.2)) (fun _ h => h.1))
 have n6_ := Aside0.mk (KeepBut.blk hk (g' := gb212) (o := .cells #[.slice Ao14 t202.length co14, .slice Ao20 t205.length co20, .slice Ao21 t208.length co21] 30 (0, 0)) (bk BK212) NB212_201.out (by simp))
 have n7_ := Aside0.mk (Kd.R_mono (Kd.R_keep (IsS163.apart (show IsS163 w _ g201 t199 t231 from by repeat (first | (with_reducible first | exact HI201.out | apply IsS163.alloc | apply IsS163.drewN | apply IsS163.drew | apply IsS163.set_1 | refine IsS163.far ?_ NB201_196.out _ | refine IsS163.far ?_ NB201_197.out _ | refine IsS163.far ?_ NB201_198.out _ | refine IsS163.far ?_ NB201_212.out _ | refine IsS163.far ?_ NB201_229.out _) | exact HI201.out)) (by (with_reducible repeat (first | apply Kd.R_alloc | apply Kd.R_drewN | apply Kd.R_drew)); exact HO224.out) (by decide)) hk (fun _ h => h.2)) (fun _ h => h.1))
 have n8_ := Aside0.mk (Kd.R_mono (Kd.R_keep (IsS163.apart (show IsS163 w _ g201 t199 t231 from by repeat (first | (with_reducible first | exact HI201.out | apply IsS163.alloc | apply IsS163.drewN | apply IsS163.drew | apply IsS163.set_1 | refine IsS163.far ?_ NB201_196.out _ | refine IsS163.far ?_ NB201_197.out _ | refine IsS163.far ?_ NB201_198.out _ | refine IsS163.far ?_ NB201_212.out _ | refine IsS163.far ?_ NB201_229.out _) | exact HI201.out)) (by (with_reducible repeat (first | apply Kd.R_alloc | apply Kd.R_drewN | apply Kd.R_drew)); exact HO227.out) (by decide)) hk (fun _ h => h.2)) (fun _ h => h.1))
 have n9_ := Aside0.mk (KeepBut.blk hk (g' := gb229) (o := .cells #[.bool t221, .slice Ao33 t222.length co33, .slice Ao34 t225.length co34] 41 (0, 0)) (bk BK229) NB229_201.out (by simp))
 have n10_ := Aside0.mk (hb)
 have n11_ := Aside0.mk (hi)
 clear BK196
 clear BK197
 clear BK198
 clear HO204
 clear HO207
 clear HO210
 clear BK212
 clear HO224
 clear HO227
 clear BK229
 clear HB
 clear HI201
 have BK196 := n0_
 have BK197 := n1_
 have BK198 := n2_
 have HO204 := n3_
 have HO207 := n4_
 have HO210 := n5_
 have BK212 := n6_
 have HO224 := n7_
 have HO227 := n8_
 have BK229 := n9_
 have HB := n10_
 have HI201 := n11_
 clear n0_ n1_ n2_ n3_ n4_ n5_ n6_ n7_ n8_ n9_ n10_ n11_
 (try clear hb)
 (try clear hb2)
 (try clear hk)
 (try clear hi)
 refine hK.out _ _ ⟨(blk_cell BK212.out 0).trans rfl, (blk_cell BK212.out 1).trans rfl, (blk_cell BK212.out 2).trans rfl, (blk_cell BK229.out 0).trans rfl, (blk_cell BK229.out 1).trans rfl, (blk_cell BK229.out 2).trans rfl⟩ (fun hHeld => ?_)
 clear hK K
 refine norm_ (a' := ?_) ?_ ?_
 rotate_left
 ·show Act.put _ (some 27) _ = _
  simp only [Act.put, List.setIfInBounds_toArray, List.set_cons_zero, List.set_cons_succ, i64_w, i32_w]
  rfl
 refine one_ (i := 10) (N := none) #[true, true, true, true, true, true, true, true, true, true, true, false, false, false] rfl rfl (one_of HT_.out (by kernel_rfl)) (by decide) (fun K hK => ?_)
 have hs39 : w38.cell? ⟨gb196, 0, none⟩ = some (.slice none 0 0) := (blk_cell BK196.out 0).trans rfl
 have hfs39 := blk_frozen BK196.out 0
 have hns39_1 := NB197_196.out
 have hns39_2 := NB198_196.out
 have hns39_3 := NB212_196.out
 have hns39_4 := NB229_196.out
 have hms39_1 := NB196_197.out
 have hms39_2 := NB196_198.out
 have hms39_3 := NB196_212.out
 have hms39_4 := NB196_229.out
 have hs40 : w38.cell? ⟨gb196, 1, none⟩ = some (.slice none 0 0) := (blk_cell BK196.out 1).trans rfl
 have hfs40 := blk_frozen BK196.out 1
 have hns40_1 := NB197_196.out
 have hns40_2 := NB198_196.out
 have hns40_3 := NB212_196.out
 have hns40_4 := NB229_196.out
 have hms40_1 := NB196_197.out
 have hms40_2 := NB196_198.out
 have hms40_3 := NB196_212.out
 have hms40_4 := NB196_229.out
 have hs41 : w38.cell? ⟨gb196, 2, none⟩ = some (.slice none 0 0) := (blk_cell BK196.out 2).trans rfl
 have hfs41 := blk_frozen BK196.out 2
 have hns41_1 := NB197_196.out
 have hns41_2 := NB198_196.out
 have hns41_3 := NB212_196.out
 have hns41_4 := NB229_196.out
 have hms41_1 := NB196_197.out
 have hms41_2 := NB196_198.out
 have hms41_3 := NB196_212.out
 have hms41_4 := NB196_229.out
 refine skip_ (w1 := ?_) (by rfl) rfl ?_ ?_
 rotate_left
 ·go_simp
  rfl
 refine hK.out _ _ ⟨((cell_far (p := ⟨gb196, _, none⟩) NB212_196.out _).trans (((cell_far (p := ⟨gb196, _, none⟩) NB212_196.out _).trans (((cell_far (p := ⟨gb196, _, none⟩) NB212_196.out _).trans (hHeld.1)))))), ((cell_far (p := ⟨gb196, _, none⟩) NB212_196.out _).trans (((cell_far (p := ⟨gb196, _, none⟩) NB212_196.out _).trans (((cell_far (p := ⟨gb196, _, none⟩) NB212_196.out _).trans (hHeld.2.1)))))), ((cell_far (p := ⟨gb196, _, none⟩) NB212_196.out _).trans (((cell_far (p := ⟨gb196, _, none⟩) NB212_196.out _).trans (((cell_far (p := ⟨gb196, _, none⟩) NB212_196.out _).trans (hHeld.2.2.1)))))), ((cell_far (p := ⟨gb196, _, none⟩) NB229_196.out _).trans (((cell_far (p := ⟨gb196, _, none⟩) NB229_196.out _).trans (((cell_far (p := ⟨gb196, _, none⟩) NB229_196.out _).trans (hHeld.2.2.2.1)))))), ((cell_far (p := ⟨gb196, _, none⟩) NB229_196.out _).trans (((cell_far (p := ⟨gb196, _, none⟩) NB229_196.out _).trans (((cell_far (p := ⟨gb196, _, none⟩) NB229_196.out _).trans (hHeld.2.2.2.2.1)))))), ((cell_far (p := ⟨gb196, _, none⟩) NB229_196.out _).trans (((cell_far (p := ⟨gb196, _, none⟩) NB229_196.out _).trans (((cell_far (p := ⟨gb196, _, none⟩) NB229_196.out _).trans (hHeld.2.2.2.2.2))))))⟩ (fun hHeld => ?_)
 clear hK K
 refine one_ (i := 11) (N := none) #[true, true, true, true, true, true, true, true, true, true, true, true, false, false] rfl rfl (one_of HT_.out (by kernel_rfl)) (by decide) (fun K hK => ?_)
 have hs42 : w38.cell? ⟨gb197, 0, none⟩ = some (.bool false) := (blk_cell BK197.out 0).trans rfl
 have hfs42 := blk_frozen BK197.out 0
 have hns42_0 := NB196_197.out
 have hns42_2 := NB198_197.out
 have hns42_3 := NB212_197.out
 have hns42_4 := NB229_197.out
 have hms42_0 := NB197_196.out
 have hms42_2 := NB197_198.out
 have hms42_3 := NB197_212.out
 have hms42_4 := NB197_229.out
 have hs43 : w38.cell? ⟨gb197, 1, none⟩ = some (.slice none 0 0) := (blk_cell BK197.out 1).trans rfl
 have hfs43 := blk_frozen BK197.out 1
 have hns43_0 := NB196_197.out
 have hns43_2 := NB198_197.out
 have hns43_3 := NB212_197.out
 have hns43_4 := NB229_197.out
 have hms43_0 := NB197_196.out
 have hms43_2 := NB197_198.out
 have hms43_3 := NB197_212.out
 have hms43_4 := NB197_229.out
 have hs44 : w38.cell? ⟨gb197, 2, none⟩ = some (.slice none 0 0) := (blk_cell BK197.out 2).trans rfl
 have hfs44 := blk_frozen BK197.out 2
 have hns44_0 := NB196_197.out
 have hns44_2 := NB198_197.out
 have hns44_3 := NB212_197.out
 have hns44_4 := NB229_197.out
 have hms44_0 := NB197_196.out
 have hms44_2 := NB197_198.out
 have hms44_3 := NB197_212.out
 have hms44_4 := NB197_229.out
 refine skip_ (w1 := ?_) (by rfl) rfl ?_ ?_
 rotate_left
 ·go_simp
  rfl
 refine hK.out _ _ ⟨((cell_far (p := ⟨gb197, _, none⟩) NB212_197.out _).trans (((cell_far (p := ⟨gb197, _, none⟩) NB212_197.out _).trans (((cell_far (p := ⟨gb197, _, none⟩) NB212_197.out _).trans (hHeld.1)))))), ((cell_far (p := ⟨gb197, _, none⟩) NB212_197.out _).trans (((cell_far (p := ⟨gb197, _, none⟩) NB212_197.out _).trans (((cell_far (p := ⟨gb197, _, none⟩) NB212_197.out _).trans (hHeld.2.1)))))), ((cell_far (p := ⟨gb197, _, none⟩) NB212_197.out _).trans (((cell_far (p := ⟨gb197, _, none⟩) NB212_197.out _).trans (((cell_far (p := ⟨gb197, _, none⟩) NB212_197.out _).trans (hHeld.2.2.1)))))), ((cell_far (p := ⟨gb197, _, none⟩) NB229_197.out _).trans (((cell_far (p := ⟨gb197, _, none⟩) NB229_197.out _).trans (((cell_far (p := ⟨gb197, _, none⟩) NB229_197.out _).trans (hHeld.2.2.2.1)))))), ((cell_far (p := ⟨gb197, _, none⟩) NB229_197.out _).trans (((cell_far (p := ⟨gb197, _, none⟩) NB229_197.out _).trans (((cell_far (p := ⟨gb197, _, none⟩) NB229_197.out _).trans (hHeld.2.2.2.2.1)))))), ((cell_far (p := ⟨gb197, _, none⟩) NB229_197.out _).trans (((cell_far (p := ⟨gb197, _, none⟩) NB229_197.out _).trans (((cell_far (p := ⟨gb197, _, none⟩) NB229_197.out _).trans (hHeld.2.2.2.2.2))))))⟩ (fun hHeld => ?_)
 clear hK K
 refine pure_ (i := 12) (N := some 4) (v := ?_) (a' := ?_) #[true, true, true, true, true, true, true, true, true, true, true, true, true, false] rfl rfl (any_of HT_.out (by kernel_rfl)) (fun _ _ _ h => h) (Or.inl ⟨by rfl, ?_⟩) ?_ ?_
 rotate_left
 ·intro w'
  go_simp
  with_reducible rfl
 rotate_left
 ·simp only [Act.put, List.setIfInBounds_toArray, List.set_cons_zero, List.set_cons_succ, i64_w, i32_w]
  rfl
 refine one_ (i := 13) (N := none) #[true, true, true, true, true, true, true, true, true, true, true, true, true, true] rfl rfl (one_of HT_.out (by kernel_rfl)) (by decide) (fun K hK => ?_)
 have hs45 : w38.cell? ⟨gb198, 0, none⟩ = some (.int .i64 0) := (blk_cell BK198.out 0).trans rfl
 have hfs45 := blk_frozen BK198.out 0
 have hns45_0 := NB196_198.out
 have hns45_1 := NB197_198.out
 have hns45_3 := NB212_198.out
 have hns45_4 := NB229_198.out
 have hms45_0 := NB198_196.out
 have hms45_1 := NB198_197.out
 have hms45_3 := NB198_212.out
 have hms45_4 := NB198_229.out
 have hs46 : w38.cell? ⟨gb198, 1, none⟩ = some (.int .i64 0) := (blk_cell BK198.out 1).trans rfl
 have hfs46 := blk_frozen BK198.out 1
 have hns46_0 := NB196_198.out
 have hns46_1 := NB197_198.out
 have hns46_3 := NB212_198.out
 have hns46_4 := NB229_198.out
 have hms46_0 := NB198_196.out
 have hms46_1 := NB198_197.out
 have hms46_3 := NB198_212.out
 have hms46_4 := NB198_229.out
 refine skip_ (w1 := ?_) (by rfl) rfl ?_ ?_
 rotate_left
 ·go_simp
  rfl
 refine hK.out _ _ ⟨((cell_far (p := ⟨gb198, _, none⟩) NB212_198.out _).trans (((cell_far (p := ⟨gb198, _, none⟩) NB212_198.out _).trans (hHeld.1)))), ((cell_far (p := ⟨gb198, _, none⟩) NB212_198.out _).trans (((cell_far (p := ⟨gb198, _, none⟩) NB212_198.out _).trans (hHeld.2.1)))), ((cell_far (p := ⟨gb198, _, none⟩) NB212_198.out _).trans (((cell_far (p := ⟨gb198, _, none⟩) NB212_198.out _).trans (hHeld.2.2.1)))), ((cell_far (p := ⟨gb198, _, none⟩) NB229_198.out _).trans (((cell_far (p := ⟨gb198, _, none⟩) NB229_198.out _).trans (hHeld.2.2.2.1)))), ((cell_far (p := ⟨gb198, _, none⟩) NB229_198.out _).trans (((cell_far (p := ⟨gb198, _, none⟩) NB229_198.out _).trans (hHeld.2.2.2.2.1)))), ((cell_far (p := ⟨gb198, _, none⟩) NB229_198.out _).trans (((cell_far (p := ⟨gb198, _, none⟩) NB229_198.out _).trans (hHeld.2.2.2.2.2))))⟩ (fun hHeld => ?_)
 clear hK K
 refine done_ (done_of HT_.out (by kernel_rfl)) ?_
 try go_wp2
 refine bodyPost_ret (results_list (rs := [.cell 2 30, .cell 3 41, .tmp 4, .cell 5 78]) rfl (by simp) (.cell gb196 30 #[.slice Ao14 t202.length co14, .slice Ao20 t205.length co20, .slice Ao21 t208.length co21] (0, 0) _ rfl (by (with_reducible repeat (first | refine blk_drewN ?_ _ | refine blk_drew ?_ | refine blk_alloc ?_ _)); refine blk_far ?_ NB196_198.out _; (with_reducible repeat (first | refine blk_drewN ?_ _ | refine blk_drew ?_ | refine blk_alloc ?_ _)); refine blk_far ?_ NB196_198.out _; (with_reducible repeat (first | refine blk_drewN ?_ _ | refine blk_drew ?_ | refine blk_alloc ?_ _)); refine blk_far ?_ NB196_197.out _; (with_reducible repeat (first | refine blk_drewN ?_ _ | refine blk_drew ?_ | refine blk_alloc ?_ _)); refine blk_far ?_ NB196_197.out _; (with_reducible repeat (first | refine blk_drewN ?_ _ | refine blk_drew ?_ | refine blk_alloc ?_ _)); refine blk_far ?_ NB196_197.out _; (with_reducible repeat (first | refine blk_drewN ?_ _ | refine blk_drew ?_ | refine blk_alloc ?_ _)); refine blk_put (cs := #[.slice Ao14 t202.length co14, .slice Ao20 t205.length co20, .slice none 0 0]) ?_ 2 _ rfl; (with_reducible repeat (first | refine blk_drewN ?_ _ | refine blk_drew ?_ | refine blk_alloc ?_ _)); refine blk_put (cs := #[.slice Ao14 t202.length co14, .slice none 0 0, .slice none 0 0]) ?_ 1 _ rfl; (with_reducible repeat (first | refine blk_drewN ?_ _ | refine blk_drew ?_ | refine blk_alloc ?_ _)); refine blk_put (cs := #[.slice none 0 0, .slice none 0 0, .slice none 0 0]) ?_ 0 _ rfl; (with_reducible repeat (first | refine blk_drewN ?_ _ | refine blk_drew ?_ | refine blk_alloc ?_ _)); exact BK196.out) Tryd.underlying30 rfl (by kernel_rfl) (.cell gb197 41 #[.bool t221, .slice Ao33 t222.length co33, .slice Ao34 t225.length co34] (0, 0) _ rfl (by (with_reducible repeat (first | refine blk_drewN ?_ _ | refine blk_drew ?_ | refine blk_alloc ?_ _)); refine blk_far ?_ NB197_198.out _; (with_reducible repeat (first | refine blk_drewN ?_ _ | refine blk_drew ?_ | refine blk_alloc ?_ _)); refine blk_far ?_ NB197_198.out _; (with_reducible repeat (first | refine blk_drewN ?_ _ | refine blk_drew ?_ | refine blk_alloc ?_ _)); refine blk_put (cs := #[.bool t221, .slice Ao33 t222.length co33, .slice none 0 0]) ?_ 2 _ rfl; (with_reducible repeat (first | refine blk_drewN ?_ _ | refine blk_drew ?_ | refine blk_alloc ?_ _)); refine blk_put (cs := #[.bool t221, .slice none 0 0, .slice none 0 0]) ?_ 1 _ rfl; (with_reducible repeat (first | refine blk_drewN ?_ _ | refine blk_drew ?_ | refine blk_alloc ?_ _)); refine blk_put (cs := #[.bool false, .slice none 0 0, .slice none 0 0]) ?_ 0 _ rfl; (with_reducible repeat (first | refine blk_drewN ?_ _ | refine blk_drew ?_ | refine blk_alloc ?_ _)); refine blk_far ?_ NB197_196.out _; (with_reducible repeat (first | refine blk_drewN ?_ _ | refine blk_drew ?_ | refine blk_alloc ?_ _)); refine blk_far ?_ NB197_196.out _; (with_reducible repeat (first | refine blk_drewN ?_ _ | refine blk_drew ?_ | refine blk_alloc ?_ _)); refine blk_far ?_ NB197_196.out _; (with_reducible repeat (first | refine blk_drewN ?_ _ | refine blk_drew ?_ | refine blk_alloc ?_ _)); exact BK197.out) Tryd.underlying41 rfl (by kernel_rfl) (.tmp (.cell gb198 78 #[.int .i64 t232, .int .i64 t233] (0, 0) _ rfl (by (with_reducible repeat (first | refine blk_drewN ?_ _ | refine blk_drew ?_ | refine blk_alloc ?_ _)); refine blk_put (cs := #[.int .i64 t232, .int .i64 0]) ?_ 1 _ rfl; (with_reducible repeat (first | refine blk_drewN ?_ _ | refine blk_drew ?_ | refine blk_alloc ?_ _)); refine blk_put (cs := #[.int .i64 0, .int .i64 0]) ?_ 0 _ rfl; (with_reducible repeat (first | refine blk_drewN ?_ _ | refine blk_drew ?_ | refine blk_alloc ?_ _)); refine blk_far ?_ NB198_197.out _; (with_reducible repeat (first | refine blk_drewN ?_ _ | refine blk_drew ?_ | refine blk_alloc ?_ _)); refine blk_far ?_ NB198_197.out _; (with_reducible repeat (first | refine blk_drewN ?_ _ | refine blk_drew ?_ | refine blk_alloc ?_ _)); refine blk_far ?_ NB198_197.out _; (with_reducible repeat (first | refine blk_drewN ?_ _ | refine blk_drew ?_ | refine blk_alloc ?_ _)); refine blk_far ?_ NB198_196.out _; (with_reducible repeat (first | refine blk_drewN ?_ _ | refine blk_drew ?_ | refine blk_alloc ?_ _)); refine blk_far ?_ NB198_196.out _; (with_reducible repeat (first | refine blk_drewN ?_ _ | refine blk_drew ?_ | refine blk_alloc ?_ _)); refine blk_far ?_ NB198_196.out _; (with_reducible repeat (first | refine blk_drewN ?_ _ | refine blk_drew ?_ | refine blk_alloc ?_ _)); exact BK198.out) Tryd.underlying78 rfl (by kernel_rfl) .nil))))) rfl ?_
 exact ⟨_, _, _, _, _, by first | rfl | (simp [errW_none, errW_some] <;> rfl) | (simp [*, errW_none, errW_some] <;> rfl), by (with_reducible repeat (first | apply Kd.R_alloc | apply Kd.R_drewN | apply Kd.R_drew)); exact Kd.R_mono (Kd.R_far (p := ⟨gb198, 1, none⟩) (Kd.R_far (p := ⟨gb198, 0, none⟩) (Kd.R_far (p := ⟨gb197, 2, none⟩) (Kd.R_far (p := ⟨gb197, 1, none⟩) (Kd.R_far (p := ⟨gb197, 0, none⟩) (Kd.R_far (p := ⟨gb196, 2, none⟩) (Kd.R_far (p := ⟨gb196, 1, none⟩) (Kd.R_far (p := ⟨gb196, 0, none⟩) (Kd.R_types (Kd.R_types (Kd.R_types HO204.out BK196.out (by decide)) BK197.out (by decide)) BK198.out (by decide)) (fun _ hk => hk.1.1.2) (.slice Ao14 t202.length co14)) (fun _ hk => hk.1.1.2) (.slice Ao20 t205.length co20)) (fun _ hk => hk.1.1.2) (.slice Ao21 t208.length co21)) (fun _ hk => hk.1.2) (.bool t221)) (fun _ hk => hk.1.2) (.slice Ao33 t222.length co33)) (fun _ hk => hk.1.2) (.slice Ao34 t225.length co34)) (fun _ hk => hk.2) (.int .i64 t232)) (fun _ hk => hk.2) (.int .i64 t233)) (fun _ hk => hk.1.1.1), by (with_reducible repeat (first | apply Kd.R_alloc | apply Kd.R_drewN | apply Kd.R_drew)); exact Kd.R_mono (Kd.R_far (p := ⟨gb198, 1, none⟩) (Kd.R_far (p := ⟨gb198, 0, none⟩) (Kd.R_far (p := ⟨gb197, 2, none⟩) (Kd.R_far (p := ⟨gb197, 1, none⟩) (Kd.R_far (p := ⟨gb197, 0, none⟩) (Kd.R_far (p := ⟨gb196, 2, none⟩) (Kd.R_far (p := ⟨gb196, 1, none⟩) (Kd.R_far (p := ⟨gb196, 0, none⟩) (Kd.R_types (Kd.R_types (Kd.R_types HO207.out BK196.out (by decide)) BK197.out (by decide)) BK198.out (by decide)) (fun _ hk => hk.1.1.2) (.slice Ao14 t202.length co14)) (fun _ hk => hk.1.1.2) (.slice Ao20 t205.length co20)) (fun _ hk => hk.1.1.2) (.slice Ao21 t208.length co21)) (fun _ hk => hk.1.2) (.bool t221)) (fun _ hk => hk.1.2) (.slice Ao33 t222.length co33)) (fun _ hk => hk.1.2) (.slice Ao34 t225.length co34)) (fun _ hk => hk.2) (.int .i64 t232)) (fun _ hk => hk.2) (.int .i64 t233)) (fun _ hk => hk.1.1.1), by (with_reducible repeat (first | apply Kd.R_alloc | apply Kd.R_drewN | apply Kd.R_drew)); exact Kd.R_mono (Kd.R_far (p := ⟨gb198, 1, none⟩) (Kd.R_far (p := ⟨gb198, 0, none⟩) (Kd.R_far (p := ⟨gb197, 2, none⟩) (Kd.R_far (p := ⟨gb197, 1, none⟩) (Kd.R_far (p := ⟨gb197, 0, none⟩) (Kd.R_far (p := ⟨gb196, 2, none⟩) (Kd.R_far (p := ⟨gb196, 1, none⟩) (Kd.R_far (p := ⟨gb196, 0, none⟩) (Kd.R_types (Kd.R_types (Kd.R_types HO210.out BK196.out (by decide)) BK197.out (by decide)) BK198.out (by decide)) (fun _ hk => hk.1.1.2) (.slice Ao14 t202.length co14)) (fun _ hk => hk.1.1.2) (.slice Ao20 t205.length co20)) (fun _ hk => hk.1.1.2) (.slice Ao21 t208.length co21)) (fun _ hk => hk.1.2) (.bool t221)) (fun _ hk => hk.1.2) (.slice Ao33 t222.length co33)) (fun _ hk => hk.1.2) (.slice Ao34 t225.length co34)) (fun _ hk => hk.2) (.int .i64 t232)) (fun _ hk => hk.2) (.int .i64 t233)) (fun _ hk => trivial), by (with_reducible repeat (first | apply Kd.R_alloc | apply Kd.R_drewN | apply Kd.R_drew)); exact Kd.R_mono (Kd.R_far (p := ⟨gb198, 1, none⟩) (Kd.R_far (p := ⟨gb198, 0, none⟩) (Kd.R_far (p := ⟨gb197, 2, none⟩) (Kd.R_far (p := ⟨gb197, 1, none⟩) (Kd.R_far (p := ⟨gb197, 0, none⟩) (Kd.R_far (p := ⟨gb196, 2, none⟩) (Kd.R_far (p := ⟨gb196, 1, none⟩) (Kd.R_far (p := ⟨gb196, 0, none⟩) (Kd.R_mono (Kd.R_types (Kd.R_types HO224.out BK196.out (by decide)) BK197.out (by decide)) (fun k_ hk => (⟨hk, hk.1.1.2⟩ : _ ∧ k_ ≠ gb198))) (fun _ hk => hk.1.1.2) (.slice Ao14 t202.length co14)) (fun _ hk => hk.1.1.2) (.slice Ao20 t205.length co20)) (fun _ hk => hk.1.1.2) (.slice Ao21 t208.length co21)) (fun _ hk => hk.1.2) (.bool t221)) (fun _ hk => hk.1.2) (.slice Ao33 t222.length co33)) (fun _ hk => hk.1.2) (.slice Ao34 t225.length co34)) (fun _ hk => hk.2) (.int .i64 t232)) (fun _ hk => hk.2) (.int .i64 t233)) (fun _ hk => hk.1.1.1.1), by (with_reducible repeat (first | apply Kd.R_alloc | apply Kd.R_drewN | apply Kd.R_drew)); exact Kd.R_mono (Kd.R_far (p := ⟨gb198, 1, none⟩) (Kd.R_far (p := ⟨gb198, 0, none⟩) (Kd.R_far (p := ⟨gb197, 2, none⟩) (Kd.R_far (p := ⟨gb197, 1, none⟩) (Kd.R_far (p := ⟨gb197, 0, none⟩) (Kd.R_far (p := ⟨gb196, 2, none⟩) (Kd.R_far (p := ⟨gb196, 1, none⟩) (Kd.R_far (p := ⟨gb196, 0, none⟩) (Kd.R_mono (Kd.R_types (Kd.R_types HO227.out BK196.out (by decide)) BK197.out (by decide)) (fun k_ hk => (⟨hk, hk.1.1.2⟩ : _ ∧ k_ ≠ gb198))) (fun _ hk => hk.1.1.2) (.slice Ao14 t202.length co14)) (fun _ hk => hk.1.1.2) (.slice Ao20 t205.length co20)) (fun _ hk => hk.1.1.2) (.slice Ao21 t208.length co21)) (fun _ hk => hk.1.2) (.bool t221)) (fun _ hk => hk.1.2) (.slice Ao33 t222.length co33)) (fun _ hk => hk.1.2) (.slice Ao34 t225.length co34)) (fun _ hk => hk.2) (.int .i64 t232)) (fun _ hk => hk.2) (.int .i64 t233)) (fun _ hk => hk.1.1.1.1), by repeat (first | (with_reducible first | exact HB.out | apply below_alloc | apply pw_below_drewN | apply below_drew1 | refine below_set ?_ (IsS163.ge HI201.out) | refine below_set ?_ GE196.out | refine below_set ?_ GE197.out | refine below_set ?_ GE198.out | refine below_set ?_ GE212.out | refine below_set ?_ GE229.out) | exact HB.out)⟩

end Go.Proofs.YtcomagipdbdglaaDoor.Q
