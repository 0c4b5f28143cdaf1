-- Contracts of the program's functions, each with the plain function that it computes.
import Derived.Test.YtcomagipdbdglaaDoorQx0
import Derived.Test.YtcomagipdbdglaaDoorQx4
import Derived.Test.YtcomagipdbdglaaDoorQx13
import Derived.Test.YtcomagipdbdglaaDoorQx24
import Derived.Test.YtcomagipdbdglaaDoorQx37
import Derived.Test.YtcomagipdbdglaaDoorQx38
import Derived.Test.YtcomagipdbdglaaDoorQx42
import Derived.Test.YtcomagipdbdglaaDoorQx44
import Derived.Test.YtcomagipdbdglaaDoorQx48
namespace Go.Proofs.YtcomagipdbdglaaDoor.Q
open Go.RowKit Go.Proofs.YtcomagipdbdglaaDoorW.PrintWords Go.Proofs.YtcomagipdbdglaaDoorW.PrintLast Go.Proofs.YtcomagipdbdglaaDoorW.PrintMore
attribute [local go_sem] max2_int min2_int max_two min_two max_three min_three max_four min_four   -- for this text's walks alone
set_option linter.unusedVariables false
set_option linter.unusedSimpArgs false

/-! ### laws_FnExactStoreOk: function 5 -/
def laws_FnExactStoreOk.f (k : Nat) (l0_0 : List ByteArray) (l0_1 : List ByteArray) (l0_2 : List (S141)) (l1_0 : List Int) (l1_1 : List Bool) (l1_2 : List (List Int)) : Option (Bool) := (laws_szDecl.f k l0_0 l0_1 l0_2 1048576).bind fun t379 => (if t379 < 0 then (some true) else ((laws_szStore.f k l1_0 l1_1 l1_2 t379).bind fun t380 => (if t380 < 0 then (some true) else ((laws_toDecl.f k l0_0 l0_1 l0_2).bind fun bt381 => ((laws_toStore.f k l1_0 l1_1 l1_2).bind fun bt390 => ((spec_StoreOk.f k bt381.1 bt381.2.1 bt381.2.2 bt390.1 bt390.2.1 bt390.2.2).bind fun t399 => ((laws_toDecl.f k l0_0 l0_1 l0_2).bind fun bt400 => ((laws_toStore.f k l1_0 l1_1 l1_2).bind fun bt410 => ((impl_StoreOk.f k bt400.1 bt400.2.1 bt400.2.2 bt410.1 bt410.2.1 bt410.2.2).bind fun t420 => (if (t420 != t399) = true then (some false) else ((laws_toDecl.f k l0_0 l0_1 l0_2).bind fun bt421 => ((laws_eqDecl.f k bt400.1 bt400.2.1 bt400.2.2 bt421.1 bt421.2.1 bt421.2.2).bind fun t430 => (if t430 = true then ((laws_toStore.f k l1_0 l1_1 l1_2).bind fun bt431 => ((laws_eqStore.f k bt410.1 bt410.2.1 bt410.2.2 bt431.1 bt431.2.1 bt431.2.2).bind fun t440 => (if t440 = true then (some true) else (some false)))) else (some false))))))))))))))
theorem laws_FnExactStoreOk.mono : ∀ a0 a1 a2 a3 a4 a5 k, LeO (laws_FnExactStoreOk.f k a0 a1 a2 a3 a4 a5) (laws_FnExactStoreOk.f (k + 1) a0 a1 a2 a3 a4 a5) := by
 intro a0 a1 a2 a3 a4 a5 k
 unfold laws_FnExactStoreOk.f
 repeat' first
   | (with_reducible exact impl_StoreOk.mono _ _ _ _ _ _ _)
   | (with_reducible exact laws_eqDecl.mono _ _ _ _ _ _ _)
   | (with_reducible exact laws_eqStore.mono _ _ _ _ _ _ _)
   | (with_reducible exact laws_szDecl.mono _ _ _ _ _)
   | (with_reducible exact laws_szStore.mono _ _ _ _ _)
   | (with_reducible exact laws_toDecl.mono _ _ _ _)
   | (with_reducible exact laws_toStore.mono _ _ _ _)
   | (with_reducible exact spec_StoreOk.mono _ _ _ _ _ _ _)
   | (with_reducible exact LeO.refl _)
   | (with_reducible exact LeO.none _)
   | (with_reducible refine LeO.ite ?_ ?_)
   | (with_reducible refine LeO.bind ?_ (fun _ => ?_))
   | exact impl_StoreOk.mono _ _ _ _ _ _ _
   | exact laws_eqDecl.mono _ _ _ _ _ _ _
   | exact laws_eqStore.mono _ _ _ _ _ _ _
   | exact laws_szDecl.mono _ _ _ _ _
   | exact laws_szStore.mono _ _ _ _ _
   | exact laws_toDecl.mono _ _ _ _
   | exact laws_toStore.mono _ _ _ _
   | exact spec_StoreOk.mono _ _ _ _ _ _ _
   | exact LeO.none _
   | refine LeO.ite ?_ ?_
   | refine LeO.bind ?_ (fun _ => ?_)
set_option maxHeartbeats 8000000 in
set_option maxRecDepth 100000 in
theorem laws_FnExactStoreOk.calls (k : Nat) (A0_0 : Option Addr) (c0_0 : Nat) (l0_0 : List ByteArray) (A0_1 : Option Addr) (c0_1 : Nat) (l0_1 : List ByteArray) (A0_2 : Option Addr) (c0_2 : Nat) (l0_2 : List (S141)) (A1_0 : Option Addr) (c1_0 : Nat) (l1_0 : List Int) (A1_1 : Option Addr) (c1_1 : Nat) (l1_1 : List Bool) (A1_2 : Option Addr) (c1_2 : Nat) (l1_2 : List (List Int)) (w : World) (hr0_0 : Kd.C Kd.string w A0_0 l0_0.length l0_0) (hc0_0 : l0_0.length ≤ c0_0) (hr0_1 : Kd.C Kd.string w A0_1 l0_1.length l0_1) (hc0_1 : l0_1.length ≤ c0_1) (hr0_2 : Kd.C k141 w A0_2 l0_2.length l0_2) (hc0_2 : l0_2.length ≤ c0_2) (hr1_0 : Kd.C (Kd.int .i64) w A1_0 l1_0.length l1_0) (hc1_0 : l1_0.length ≤ c1_0) (hr1_1 : Kd.C Kd.bool w A1_1 l1_1.length l1_1) (hc1_1 : l1_1.length ≤ c1_1) (hr1_2 : Kd.C (Kd.slice 2 (Kd.int .i64)) w A1_2 l1_2.length l1_2) (hc1_2 : l1_2.length ≤ c1_2) (h : laws_FnExactStoreOk.f k l0_0 l0_1 l0_2 l1_0 l1_1 l1_2 = some true) (hTAB : TabW w := by first | exact HTAB.out | exact TabW.drewN HTAB.out _ | exact TabW.below HTAB.out (by repeat (first | (with_reducible first | exact HB.out | apply below_alloc | apply pw_below_drewN | apply below_drew1 | refine below_set ?_ (Aside0.out (by assumption))) | exact HB.out))) :
  Calls Tryd.prog 5 #[.agg #[.slice A0_0 l0_0.length c0_0, .slice A0_1 l0_1.length c0_1, .slice A0_2 l0_2.length c0_2], .agg #[.slice A1_0 l1_0.length c1_0, .slice A1_1 l1_1.length c1_1, .slice A1_2 l1_2.length c1_2]] w fun e w' => e = .returned (.bool true) ∧ Below w.heap.size w w' := by
 have HTAB := Aside0.mk hTAB
 clear hTAB
 have hu25 := Tryd.underlying25
 have hu49 := Tryd.underlying49
 have hu30 := Tryd.underlying30
 have hu52 := Tryd.underlying52
 have HR0_0 := Aside0.mk hr0_0
 have HC0_0 := Aside0.mk hc0_0
 clear hr0_0 hc0_0
 have HR0_1 := Aside0.mk hr0_1
 have HC0_1 := Aside0.mk hc0_1
 clear hr0_1 hc0_1
 have HR0_2 := Aside0.mk hr0_2
 have HC0_2 := Aside0.mk hc0_2
 clear hr0_2 hc0_2
 have HR1_0 := Aside0.mk hr1_0
 have HC1_0 := Aside0.mk hc1_0
 clear hr1_0 hc1_0
 have HR1_1 := Aside0.mk hr1_1
 have HC1_1 := Aside0.mk hc1_1
 clear hr1_1 hc1_1
 have HR1_2 := Aside0.mk hr1_2
 have HC1_2 := Aside0.mk hc1_2
 clear hr1_2 hc1_2
 have HB := Aside0.mk (Below.refl w.heap.size w)
 have H : ((laws_szDecl.f k l0_0 l0_1 l0_2 1048576).bind fun t379 => (if t379 < 0 then (some true) else ((laws_szStore.f k l1_0 l1_1 l1_2 t379).bind fun t380 => (if t380 < 0 then (some true) else ((laws_toDecl.f k l0_0 l0_1 l0_2).bind fun bt381 => ((laws_toStore.f k l1_0 l1_1 l1_2).bind fun bt390 => ((spec_StoreOk.f k bt381.1 bt381.2.1 bt381.2.2 bt390.1 bt390.2.1 bt390.2.2).bind fun t399 => ((laws_toDecl.f k l0_0 l0_1 l0_2).bind fun bt400 => ((laws_toStore.f k l1_0 l1_1 l1_2).bind fun bt410 => ((impl_StoreOk.f k bt400.1 bt400.2.1 bt400.2.2 bt410.1 bt410.2.1 bt410.2.2).bind fun t420 => (if (t420 != t399) = true then (some false) else ((laws_toDecl.f k l0_0 l0_1 l0_2).bind fun bt421 => ((laws_eqDecl.f k bt400.1 bt400.2.1 bt400.2.2 bt421.1 bt421.2.1 bt421.2.2).bind fun t430 => (if t430 = true then ((laws_toStore.f k l1_0 l1_1 l1_2).bind fun bt431 => ((laws_eqStore.f k bt410.1 bt410.2.1 bt410.2.2 bt431.1 bt431.2.1 bt431.2.2).bind fun t440 => (if t440 = true then (some true) else (some false)))) else (some false))))))))))))))) = some true := h
 clear h
 replace H := Option.bind_eq_some_iff.mp H
 obtain ⟨t379, A30, H⟩ := H
 replace H : (if t379 < 0 then (some true) else ((laws_szStore.f k l1_0 l1_1 l1_2 t379).bind fun t380 => (if t380 < 0 then (some true) else ((laws_toDecl.f k l0_0 l0_1 l0_2).bind fun bt381 => ((laws_toStore.f k l1_0 l1_1 l1_2).bind fun bt390 => ((spec_StoreOk.f k bt381.1 bt381.2.1 bt381.2.2 bt390.1 bt390.2.1 bt390.2.2).bind fun t399 => ((laws_toDecl.f k l0_0 l0_1 l0_2).bind fun bt400 => ((laws_toStore.f k l1_0 l1_1 l1_2).bind fun bt410 => ((impl_StoreOk.f k bt400.1 bt400.2.1 bt400.2.2 bt410.1 bt410.2.1 bt410.2.2).bind fun t420 => (if (t420 != t399) = true then (some false) else ((laws_toDecl.f k l0_0 l0_1 l0_2).bind fun bt421 => ((laws_eqDecl.f k bt400.1 bt400.2.1 bt400.2.2 bt421.1 bt421.2.1 bt421.2.2).bind fun t430 => (if t430 = true then ((laws_toStore.f k l1_0 l1_1 l1_2).bind fun bt431 => ((laws_eqStore.f k bt410.1 bt410.2.1 bt410.2.2 bt431.1 bt431.2.1 bt431.2.2).bind fun t440 => (if t440 = true then (some true) else (some false)))) else (some false)))))))))))))) = some true := H
 have A3 := Aside0.mk A30
 clear A30
 by_cases c4 : t379 < 0
 ·rw [if_pos c4] at H
  have c4b0 : decide (t379 < 0) = true := decide_eq_true c4
  clear c4
  have HE_ := Aside0.mk (Option.some.inj H)
  clear H
  go_enter Tryd.func5, Tryd.ntmps5
  go_wp2_with (first | ((with_reducible refine gate_dst (N := 2) rfl ?_); refine box_event rfl rfl (cs := #[.slice A0_0 l0_0.length c0_0, .slice A0_1 l0_1.length c0_1, .slice A0_2 l0_2.length c0_2]) (t := 25) (by first | (go_simp; done) | (go_simp; rfl)) ?_; intro gb377 hg w5 hbox hb; have BK377 := Aside0.mk (hbox); have GW377 := bz HB hg; have GE377 := bz HB hg; replace HB := bs HB hb; clear hb hbox hg) | ((with_reducible refine gate_dst (N := 3) rfl ?_); refine box_event rfl rfl (cs := #[.slice A1_0 l1_0.length c1_0, .slice A1_1 l1_1.length c1_1, .slice A1_2 l1_2.length c1_2]) (t := 49) (by first | (go_simp; done) | (go_simp; rfl)) ?_; intro gb378 hg w6 hbox hb; have BK378 := Aside0.mk (hbox); have GW378 := bz HB hg; have GE378 := bz HB hg; replace HB := bs HB hb; have NB377_378 := bl BK377 hg; have NB378_377 := bg BK377 hg; replace BK377 := bb BK377 hb; clear hb hbox hg; have hnb7 := NB377_378.out; have hnc7 := NB378_377.out; have hcz8_0 : w6.cell? ⟨gb377, 0, none⟩ = some (.slice A0_0 l0_0.length c0_0) := (blk_cell BK377.out 0).trans rfl; have hcz8_1 : w6.cell? ⟨gb377, 1, none⟩ = some (.slice A0_1 l0_1.length c0_1) := (blk_cell BK377.out 1).trans rfl; have hcz8_2 : w6.cell? ⟨gb377, 2, none⟩ = some (.slice A0_2 l0_2.length c0_2) := (blk_cell BK377.out 2).trans rfl; have hfz8_0 := blk_frozen BK377.out 0; have hfz8_1 := blk_frozen BK377.out 1; have hfz8_2 := blk_frozen BK377.out 2) | ((with_reducible refine gate_callee (f := 12) rfl ?_); refine goesL_ (some 12) rfl rfl Tryd.func12 (by kernel_rfl) rfl #[.agg #[.slice A0_0 l0_0.length c0_0, .slice A0_1 l0_1.length c0_1, .slice A0_2 l0_2.length c0_2], .int .i64 1048576] rfl (by (try simp only [List.map_toArray, List.map_cons, List.map_nil]); first | done | rfl | (simp only [List.length_drop, List.length_take]; rfl)) ?_; (with_reducible refine (laws_szDecl.calls k _ _ l0_0 _ _ l0_1 _ _ l0_2 1048576 t379 _ ?side1 ?side2 ?side3 ?side4 ?side5 ?side6 A3.out).mono ?_); (case side1 => repeat (first | exact (Kd.C_below HR0_0.out HB.out) | (with_reducible refine Kd.C_alloc ?_ _) | (with_reducible refine Kd.C_drewN ?_ _) | (with_reducible refine Kd.C_drew ?_))); (case side2 => exact HC0_0.out); (case side3 => repeat (first | exact (Kd.C_below HR0_1.out HB.out) | (with_reducible refine Kd.C_alloc ?_ _) | (with_reducible refine Kd.C_drewN ?_ _) | (with_reducible refine Kd.C_drew ?_))); (case side4 => exact HC0_1.out); (case side5 => repeat (first | exact (Kd.C_below HR0_2.out HB.out) | (with_reducible refine Kd.C_alloc ?_ _) | (with_reducible refine Kd.C_drewN ?_ _) | (with_reducible refine Kd.C_drew ?_))); (case side6 => exact HC0_2.out); rintro e w9 ⟨rfl, hb⟩; refine ⟨_, rfl, ?_⟩; replace BK377 := bb BK377 hb; replace BK378 := bb BK378 hb; replace HB := bs HB hb; (try clear hb); (try clear hb2); (try clear hk); (try clear hi)))
  go_ret
  exact ⟨by first | rfl | exact congrArg (fun b_ => Ending.returned (Value.bool b_)) HE_.out | (refine absurd HE_.out ?_; simp [*]; done) | (have h_ := HE_.out; clear HE_; simp_all; done) | (have h_ := HE_.out; clear HE_; simp_all; omega) | (simp [errW_none, errW_some] <;> rfl) | (simp [*, errW_none, errW_some] <;> rfl), bw HB⟩
 ·rw [if_neg c4] at H
  have c4b0 : decide (t379 < 0) = false := decide_eq_false c4
  clear c4
  replace H := Option.bind_eq_some_iff.mp H
  obtain ⟨t380, A100, H⟩ := H
  replace H : (if t380 < 0 then (some true) else ((laws_toDecl.f k l0_0 l0_1 l0_2).bind fun bt381 => ((laws_toStore.f k l1_0 l1_1 l1_2).bind fun bt390 => ((spec_StoreOk.f k bt381.1 bt381.2.1 bt381.2.2 bt390.1 bt390.2.1 bt390.2.2).bind fun t399 => ((laws_toDecl.f k l0_0 l0_1 l0_2).bind fun bt400 => ((laws_toStore.f k l1_0 l1_1 l1_2).bind fun bt410 => ((impl_StoreOk.f k bt400.1 bt400.2.1 bt400.2.2 bt410.1 bt410.2.1 bt410.2.2).bind fun t420 => (if (t420 != t399) = true then (some false) else ((laws_toDecl.f k l0_0 l0_1 l0_2).bind fun bt421 => ((laws_eqDecl.f k bt400.1 bt400.2.1 bt400.2.2 bt421.1 bt421.2.1 bt421.2.2).bind fun t430 => (if t430 = true then ((laws_toStore.f k l1_0 l1_1 l1_2).bind fun bt431 => ((laws_eqStore.f k bt410.1 bt410.2.1 bt410.2.2 bt431.1 bt431.2.1 bt431.2.2).bind fun t440 => (if t440 = true then (some true) else (some false)))) else (some false)))))))))))) = some true := H
  have A10 := Aside0.mk A100
  clear A100
  by_cases c11 : t380 < 0
  ·rw [if_pos c11] at H
   have c11b0 : decide (t380 < 0) = true := decide_eq_true c11
   clear c11
   have HE_ := Aside0.mk (Option.some.inj H)
   clear H
   go_enter Tryd.func5, Tryd.ntmps5
   go_wp2_with (first | ((with_reducible refine gate_dst (N := 2) rfl ?_); refine box_event rfl rfl (cs := #[.slice A0_0 l0_0.length c0_0, .slice A0_1 l0_1.length c0_1, .slice A0_2 l0_2.length c0_2]) (t := 25) (by first | (go_simp; done) | (go_simp; rfl)) ?_; intro gb377 hg w12 hbox hb; have BK377 := Aside0.mk (hbox); have GW377 := bz HB hg; have GE377 := bz HB hg; replace HB := bs HB hb; clear hb hbox hg) | ((with_reducible refine gate_dst (N := 3) rfl ?_); refine box_event rfl rfl (cs := #[.slice A1_0 l1_0.length c1_0, .slice A1_1 l1_1.length c1_1, .slice A1_2 l1_2.length c1_2]) (t := 49) (by first | (go_simp; done) | (go_simp; rfl)) ?_; intro gb378 hg w13 hbox hb; have BK378 := Aside0.mk (hbox); have GW378 := bz HB hg; have GE378 := bz HB hg; replace HB := bs HB hb; have NB377_378 := bl BK377 hg; have NB378_377 := bg BK377 hg; replace BK377 := bb BK377 hb; clear hb hbox hg; have hnb14 := NB377_378.out; have hnc14 := NB378_377.out; have hcz15_0 : w13.cell? ⟨gb377, 0, none⟩ = some (.slice A0_0 l0_0.length c0_0) := (blk_cell BK377.out 0).trans rfl; have hcz15_1 : w13.cell? ⟨gb377, 1, none⟩ = some (.slice A0_1 l0_1.length c0_1) := (blk_cell BK377.out 1).trans rfl; have hcz15_2 : w13.cell? ⟨gb377, 2, none⟩ = some (.slice A0_2 l0_2.length c0_2) := (blk_cell BK377.out 2).trans rfl; have hfz15_0 := blk_frozen BK377.out 0; have hfz15_1 := blk_frozen BK377.out 1; have hfz15_2 := blk_frozen BK377.out 2) | ((with_reducible refine gate_callee (f := 12) rfl ?_); refine goesL_ (some 12) rfl rfl Tryd.func12 (by kernel_rfl) rfl #[.agg #[.slice A0_0 l0_0.length c0_0, .slice A0_1 l0_1.length c0_1, .slice A0_2 l0_2.length c0_2], .int .i64 1048576] rfl (by (try simp only [List.map_toArray, List.map_cons, List.map_nil]); first | done | rfl | (simp only [List.length_drop, List.length_take]; rfl)) ?_; (with_reducible refine (laws_szDecl.calls k _ _ l0_0 _ _ l0_1 _ _ l0_2 1048576 t379 _ ?side1 ?side2 ?side3 ?side4 ?side5 ?side6 A3.out).mono ?_); (case side1 => repeat (first | exact (Kd.C_below HR0_0.out HB.out) | (with_reducible refine Kd.C_alloc ?_ _) | (with_reducible refine Kd.C_drewN ?_ _) | (with_reducible refine Kd.C_drew ?_))); (case side2 => exact HC0_0.out); (case side3 => repeat (first | exact (Kd.C_below HR0_1.out HB.out) | (with_reducible refine Kd.C_alloc ?_ _) | (with_reducible refine Kd.C_drewN ?_ _) | (with_reducible refine Kd.C_drew ?_))); (case side4 => exact HC0_1.out); (case side5 => repeat (first | exact (Kd.C_below HR0_2.out HB.out) | (with_reducible refine Kd.C_alloc ?_ _) | (with_reducible refine Kd.C_drewN ?_ _) | (with_reducible refine Kd.C_drew ?_))); (case side6 => exact HC0_2.out); rintro e w16 ⟨rfl, hb⟩; refine ⟨_, rfl, ?_⟩; replace BK377 := bb BK377 hb; replace BK378 := bb BK378 hb; replace HB := bs HB hb; (try clear hb); (try clear hb2); (try clear hk); (try clear hi); have hcz17_0 : w16.cell? ⟨gb378, 0, none⟩ = some (.slice A1_0 l1_0.length c1_0) := (blk_cell BK378.out 0).trans rfl; have hcz17_1 : w16.cell? ⟨gb378, 1, none⟩ = some (.slice A1_1 l1_1.length c1_1) := (blk_cell BK378.out 1).trans rfl; have hcz17_2 : w16.cell? ⟨gb378, 2, none⟩ = some (.slice A1_2 l1_2.length c1_2) := (blk_cell BK378.out 2).trans rfl; have hfz17_0 := blk_frozen BK378.out 0; have hfz17_1 := blk_frozen BK378.out 1; have hfz17_2 := blk_frozen BK378.out 2) | ((with_reducible refine gate_callee (f := 22) rfl ?_); refine goesL_ (some 17) rfl rfl Tryd.func22 (by kernel_rfl) rfl #[.agg #[.slice A1_0 l1_0.length c1_0, .slice A1_1 l1_1.length c1_1, .slice A1_2 l1_2.length c1_2], .int .i64 t379] rfl (by (try simp only [List.map_toArray, List.map_cons, List.map_nil]); first | done | rfl | (simp only [List.length_drop, List.length_take]; rfl)) ?_; (with_reducible refine (laws_szStore.calls k _ _ l1_0 _ _ l1_1 _ _ l1_2 t379 t380 _ ?side1 ?side2 ?side3 ?side4 ?side5 ?side6 A10.out).mono ?_); (case side1 => repeat (first | exact (Kd.C_below HR1_0.out HB.out) | (with_reducible refine Kd.C_alloc ?_ _) | (with_reducible refine Kd.C_drewN ?_ _) | (with_reducible refine Kd.C_drew ?_))); (case side2 => exact HC1_0.out); (case side3 => repeat (first | exact (Kd.C_below HR1_1.out HB.out) | (with_reducible refine Kd.C_alloc ?_ _) | (with_reducible refine Kd.C_drewN ?_ _) | (with_reducible refine Kd.C_drew ?_))); (case side4 => exact HC1_1.out); (case side5 => repeat (first | exact (Kd.C_below HR1_2.out HB.out) | (with_reducible refine Kd.C_alloc ?_ _) | (with_reducible refine Kd.C_drewN ?_ _) | (with_reducible refine Kd.C_drew ?_))); (case side6 => exact HC1_2.out); rintro e w18 ⟨rfl, hb⟩; refine ⟨_, rfl, ?_⟩; replace BK377 := bb BK377 hb; replace BK378 := bb BK378 hb; replace HB := bs HB hb; (try clear hb); (try clear hb2); (try clear hk); (try clear hi)))
   go_ret
   exact ⟨by first | rfl | exact congrArg (fun b_ => Ending.returned (Value.bool b_)) HE_.out | (refine absurd HE_.out ?_; simp [*]; done) | (have h_ := HE_.out; clear HE_; simp_all; done) | (have h_ := HE_.out; clear HE_; simp_all; omega) | (simp [errW_none, errW_some] <;> rfl) | (simp [*, errW_none, errW_some] <;> rfl), bw HB⟩
  ·rw [if_neg c11] at H
   have c11b0 : decide (t380 < 0) = false := decide_eq_false c11
   clear c11
   replace H := Option.bind_eq_some_iff.mp H
   obtain ⟨⟨t381, t384, t387⟩, A190, H⟩ := H
   replace H : ((laws_toStore.f k l1_0 l1_1 l1_2).bind fun bt390 => ((spec_StoreOk.f k t381 t384 t387 bt390.1 bt390.2.1 bt390.2.2).bind fun t399 => ((laws_toDecl.f k l0_0 l0_1 l0_2).bind fun bt400 => ((laws_toStore.f k l1_0 l1_1 l1_2).bind fun bt410 => ((impl_StoreOk.f k bt400.1 bt400.2.1 bt400.2.2 bt410.1 bt410.2.1 bt410.2.2).bind fun t420 => (if (t420 != t399) = true then (some false) else ((laws_toDecl.f k l0_0 l0_1 l0_2).bind fun bt421 => ((laws_eqDecl.f k bt400.1 bt400.2.1 bt400.2.2 bt421.1 bt421.2.1 bt421.2.2).bind fun t430 => (if t430 = true then ((laws_toStore.f k l1_0 l1_1 l1_2).bind fun bt431 => ((laws_eqStore.f k bt410.1 bt410.2.1 bt410.2.2 bt431.1 bt431.2.1 bt431.2.2).bind fun t440 => (if t440 = true then (some true) else (some false)))) else (some false)))))))))) = some true := H
   have A19 := Aside0.mk A190
   clear A190
   replace H := Option.bind_eq_some_iff.mp H
   obtain ⟨⟨t390, t393, t396⟩, A200, H⟩ := H
   replace H : ((spec_StoreOk.f k t381 t384 t387 t390 t393 t396).bind fun t399 => ((laws_toDecl.f k l0_0 l0_1 l0_2).bind fun bt400 => ((laws_toStore.f k l1_0 l1_1 l1_2).bind fun bt410 => ((impl_StoreOk.f k bt400.1 bt400.2.1 bt400.2.2 bt410.1 bt410.2.1 bt410.2.2).bind fun t420 => (if (t420 != t399) = true then (some false) else ((laws_toDecl.f k l0_0 l0_1 l0_2).bind fun bt421 => ((laws_eqDecl.f k bt400.1 bt400.2.1 bt400.2.2 bt421.1 bt421.2.1 bt421.2.2).bind fun t430 => (if t430 = true then ((laws_toStore.f k l1_0 l1_1 l1_2).bind fun bt431 => ((laws_eqStore.f k bt410.1 bt410.2.1 bt410.2.2 bt431.1 bt431.2.1 bt431.2.2).bind fun t440 => (if t440 = true then (some true) else (some false)))) else (some false))))))))) = some true := H
   have A20 := Aside0.mk A200
   clear A200
   replace H := Option.bind_eq_some_iff.mp H
   obtain ⟨t399, A210, H⟩ := H
   replace H : ((laws_toDecl.f k l0_0 l0_1 l0_2).bind fun bt400 => ((laws_toStore.f k l1_0 l1_1 l1_2).bind fun bt410 => ((impl_StoreOk.f k bt400.1 bt400.2.1 bt400.2.2 bt410.1 bt410.2.1 bt410.2.2).bind fun t420 => (if (t420 != t399) = true then (some false) else ((laws_toDecl.f k l0_0 l0_1 l0_2).bind fun bt421 => ((laws_eqDecl.f k bt400.1 bt400.2.1 bt400.2.2 bt421.1 bt421.2.1 bt421.2.2).bind fun t430 => (if t430 = true then ((laws_toStore.f k l1_0 l1_1 l1_2).bind fun bt431 => ((laws_eqStore.f k bt410.1 bt410.2.1 bt410.2.2 bt431.1 bt431.2.1 bt431.2.2).bind fun t440 => (if t440 = true then (some true) else (some false)))) else (some false)))))))) = some true := H
   have A21 := Aside0.mk A210
   clear A210
   replace H := Option.bind_eq_some_iff.mp H
   obtain ⟨⟨t400, t403, t406⟩, A220, H⟩ := H
   replace H : ((laws_toStore.f k l1_0 l1_1 l1_2).bind fun bt410 => ((impl_StoreOk.f k t400 t403 t406 bt410.1 bt410.2.1 bt410.2.2).bind fun t420 => (if (t420 != t399) = true then (some false) else ((laws_toDecl.f k l0_0 l0_1 l0_2).bind fun bt421 => ((laws_eqDecl.f k t400 t403 t406 bt421.1 bt421.2.1 bt421.2.2).bind fun t430 => (if t430 = true then ((laws_toStore.f k l1_0 l1_1 l1_2).bind fun bt431 => ((laws_eqStore.f k bt410.1 bt410.2.1 bt410.2.2 bt431.1 bt431.2.1 bt431.2.2).bind fun t440 => (if t440 = true then (some true) else (some false)))) else (some false))))))) = some true := H
   have A22 := Aside0.mk A220
   clear A220
   replace H := Option.bind_eq_some_iff.mp H
   obtain ⟨⟨t410, t413, t416⟩, A230, H⟩ := H
   replace H : ((impl_StoreOk.f k t400 t403 t406 t410 t413 t416).bind fun t420 => (if (t420 != t399) = true then (some false) else ((laws_toDecl.f k l0_0 l0_1 l0_2).bind fun bt421 => ((laws_eqDecl.f k t400 t403 t406 bt421.1 bt421.2.1 bt421.2.2).bind fun t430 => (if t430 = true then ((laws_toStore.f k l1_0 l1_1 l1_2).bind fun bt431 => ((laws_eqStore.f k t410 t413 t416 bt431.1 bt431.2.1 bt431.2.2).bind fun t440 => (if t440 = true then (some true) else (some false)))) else (some false)))))) = some true := H
   have A23 := Aside0.mk A230
   clear A230
   replace H := Option.bind_eq_some_iff.mp H
   obtain ⟨t420, A240, H⟩ := H
   replace H : (if (t420 != t399) = true then (some false) else ((laws_toDecl.f k l0_0 l0_1 l0_2).bind fun bt421 => ((laws_eqDecl.f k t400 t403 t406 bt421.1 bt421.2.1 bt421.2.2).bind fun t430 => (if t430 = true then ((laws_toStore.f k l1_0 l1_1 l1_2).bind fun bt431 => ((laws_eqStore.f k t410 t413 t416 bt431.1 bt431.2.1 bt431.2.2).bind fun t440 => (if t440 = true then (some true) else (some false)))) else (some false))))) = some true := H
   have A24 := Aside0.mk A240
   clear A240
   by_cases c25 : (t420 != t399) = true
   ·rw [if_pos c25] at H
    have c25b0 : (t420 != t399) = true := c25
    (try (have c25b1 : decide (t420 = t399) = false := by simpa using c25))
    (try (have c25b2 : (t420 == t399) = false := by simpa using c25))
    (try (have c25b3 : ¬ (t420 = t399) := by simpa using c25))
    clear c25
    exact absurd (Option.some.inj H) (by decide)
   ·rw [if_neg c25] at H
    have c25b0 : (t420 != t399) = false := by simpa using c25
    (try (have c25b1 : decide (t420 = t399) = true := by simpa using c25))
    (try (have c25b2 : (t420 == t399) = true := by simpa using c25))
    clear c25
    replace H := Option.bind_eq_some_iff.mp H
    obtain ⟨⟨t421, t424, t427⟩, A260, H⟩ := H
    replace H : ((laws_eqDecl.f k t400 t403 t406 t421 t424 t427).bind fun t430 => (if t430 = true then ((laws_toStore.f k l1_0 l1_1 l1_2).bind fun bt431 => ((laws_eqStore.f k t410 t413 t416 bt431.1 bt431.2.1 bt431.2.2).bind fun t440 => (if t440 = true then (some true) else (some false)))) else (some false))) = some true := H
    have A26 := Aside0.mk A260
    clear A260
    replace H := Option.bind_eq_some_iff.mp H
    obtain ⟨t430, A270, H⟩ := H
    replace H : (if t430 = true then ((laws_toStore.f k l1_0 l1_1 l1_2).bind fun bt431 => ((laws_eqStore.f k t410 t413 t416 bt431.1 bt431.2.1 bt431.2.2).bind fun t440 => (if t440 = true then (some true) else (some false)))) else (some false)) = some true := H
    have A27 := Aside0.mk A270
    clear A270
    by_cases c28 : t430 = true
    ·subst c28
     have H1 : ((laws_toStore.f k l1_0 l1_1 l1_2).bind fun bt431 => ((laws_eqStore.f k t410 t413 t416 bt431.1 bt431.2.1 bt431.2.2).bind fun t440 => (if t440 = true then (some true) else (some false)))) = some true := by rw [if_pos rfl] at H; first | done | exact H
     clear H
     have H := H1
     clear H1
     replace H := Option.bind_eq_some_iff.mp H
     obtain ⟨⟨t431, t434, t437⟩, A290, H⟩ := H
     replace H : ((laws_eqStore.f k t410 t413 t416 t431 t434 t437).bind fun t440 => (if t440 = true then (some true) else (some false))) = some true := H
     have A29 := Aside0.mk A290
     clear A290
     replace H := Option.bind_eq_some_iff.mp H
     obtain ⟨t440, A300, H⟩ := H
     replace H : (if t440 = true then (some true) else (some false)) = some true := H
     have A30 := Aside0.mk A300
     clear A300
     by_cases c31 : t440 = true
     ·subst c31
      have H1 : (some true) = some true := by rw [if_pos rfl] at H; first | done | exact H
      clear H
      have H := H1
      clear H1
      have HE_ := Aside0.mk (Option.some.inj H)
      clear H
      go_enter Tryd.func5, Tryd.ntmps5
      try go_wp2_with (first | ((with_reducible refine gate_dst (N := 2) rfl ?_); refine box_event rfl rfl (cs := #[.slice A0_0 l0_0.length c0_0, .slice A0_1 l0_1.length c0_1, .slice A0_2 l0_2.length c0_2]) (t := 25) (by first | (go_simp; done) | (go_simp; rfl)) ?_; intro gb377 hg w32 hbox hb; have BK377 := Aside0.mk (hbox); have GW377 := bz HB hg; have GE377 := bz HB hg; replace HB := bs HB hb; clear hb hbox hg) | ((with_reducible refine gate_dst (N := 3) rfl ?_); refine box_event rfl rfl (cs := #[.slice A1_0 l1_0.length c1_0, .slice A1_1 l1_1.length c1_1, .slice A1_2 l1_2.length c1_2]) (t := 49) (by first | (go_simp; done) | (go_simp; rfl)) ?_; intro gb378 hg w33 hbox hb; have BK378 := Aside0.mk (hbox); have GW378 := bz HB hg; have GE378 := bz HB hg; replace HB := bs HB hb; have NB377_378 := bl BK377 hg; have NB378_377 := bg BK377 hg; replace BK377 := bb BK377 hb; clear hb hbox hg; have hnb34 := NB377_378.out; have hnc34 := NB378_377.out; have hcz35_0 : w33.cell? ⟨gb377, 0, none⟩ = some (.slice A0_0 l0_0.length c0_0) := (blk_cell BK377.out 0).trans rfl; have hcz35_1 : w33.cell? ⟨gb377, 1, none⟩ = some (.slice A0_1 l0_1.length c0_1) := (blk_cell BK377.out 1).trans rfl; have hcz35_2 : w33.cell? ⟨gb377, 2, none⟩ = some (.slice A0_2 l0_2.length c0_2) := (blk_cell BK377.out 2).trans rfl; have hfz35_0 := blk_frozen BK377.out 0; have hfz35_1 := blk_frozen BK377.out 1; have hfz35_2 := blk_frozen BK377.out 2) | ((with_reducible refine gate_callee (f := 12) rfl ?_); refine goesL_ (some 12) rfl rfl Tryd.func12 (by kernel_rfl) rfl #[.agg #[.slice A0_0 l0_0.length c0_0, .slice A0_1 l0_1.length c0_1, .slice A0_2 l0_2.length c0_2], .int .i64 1048576] rfl (by (try simp only [List.map_toArray, List.map_cons, List.map_nil]); first | done | rfl | (simp only [List.length_drop, List.length_take]; rfl)) ?_; (with_reducible refine (laws_szDecl.calls k _ _ l0_0 _ _ l0_1 _ _ l0_2 1048576 t379 _ ?side1 ?side2 ?side3 ?side4 ?side5 ?side6 A3.out).mono ?_); (case side1 => repeat (first | exact (Kd.C_below HR0_0.out HB.out) | (with_reducible refine Kd.C_alloc ?_ _) | (with_reducible refine Kd.C_drewN ?_ _) | (with_reducible refine Kd.C_drew ?_))); (case side2 => exact HC0_0.out); (case side3 => repeat (first | exact (Kd.C_below HR0_1.out HB.out) | (with_reducible refine Kd.C_alloc ?_ _) | (with_reducible refine Kd.C_drewN ?_ _) | (with_reducible refine Kd.C_drew ?_))); (case side4 => exact HC0_1.out); (case side5 => repeat (first | exact (Kd.C_below HR0_2.out HB.out) | (with_reducible refine Kd.C_alloc ?_ _) | (with_reducible refine Kd.C_drewN ?_ _) | (with_reducible refine Kd.C_drew ?_))); (case side6 => exact HC0_2.out); rintro e w36 ⟨rfl, hb⟩; refine ⟨_, rfl, ?_⟩; replace BK377 := bb BK377 hb; replace BK378 := bb BK378 hb; replace HB := bs HB hb; (try clear hb); (try clear hb2); (try clear hk); (try clear hi); have hcz37_0 : w36.cell? ⟨gb378, 0, none⟩ = some (.slice A1_0 l1_0.length c1_0) := (blk_cell BK378.out 0).trans rfl; have hcz37_1 : w36.cell? ⟨gb378, 1, none⟩ = some (.slice A1_1 l1_1.length c1_1) := (blk_cell BK378.out 1).trans rfl; have hcz37_2 : w36.cell? ⟨gb378, 2, none⟩ = some (.slice A1_2 l1_2.length c1_2) := (blk_cell BK378.out 2).trans rfl; have hfz37_0 := blk_frozen BK378.out 0; have hfz37_1 := blk_frozen BK378.out 1; have hfz37_2 := blk_frozen BK378.out 2) | ((with_reducible refine gate_callee (f := 22) rfl ?_); refine goesL_ (some 17) rfl rfl Tryd.func22 (by kernel_rfl) rfl #[.agg #[.slice A1_0 l1_0.length c1_0, .slice A1_1 l1_1.length c1_1, .slice A1_2 l1_2.length c1_2], .int .i64 t379] rfl (by (try simp only [List.map_toArray, List.map_cons, List.map_nil]); first | done | rfl | (simp only [List.length_drop, List.length_take]; rfl)) ?_; (with_reducible refine (laws_szStore.calls k _ _ l1_0 _ _ l1_1 _ _ l1_2 t379 t380 _ ?side1 ?side2 ?side3 ?side4 ?side5 ?side6 A10.out).mono ?_); (case side1 => repeat (first | exact (Kd.C_below HR1_0.out HB.out) | (with_reducible refine Kd.C_alloc ?_ _) | (with_reducible refine Kd.C_drewN ?_ _) | (with_reducible refine Kd.C_drew ?_))); (case side2 => exact HC1_0.out); (case side3 => repeat (first | exact (Kd.C_below HR1_1.out HB.out) | (with_reducible refine Kd.C_alloc ?_ _) | (with_reducible refine Kd.C_drewN ?_ _) | (with_reducible refine Kd.C_drew ?_))); (case side4 => exact HC1_1.out); (case side5 => repeat (first | exact (Kd.C_below HR1_2.out HB.out) | (with_reducible refine Kd.C_alloc ?_ _) | (with_reducible refine Kd.C_drewN ?_ _) | (with_reducible refine Kd.C_drew ?_))); (case side6 => exact HC1_2.out); rintro e w38 ⟨rfl, hb⟩; refine ⟨_, rfl, ?_⟩; replace BK377 := bb BK377 hb; replace BK378 := bb BK378 hb; replace HB := bs HB hb; (try clear hb); (try clear hb2); (try clear hk); (try clear hi)))
      have n0_ := Aside0.mk (blk_drew BK377.out)
      have n1_ := Aside0.mk (blk_drew BK378.out)
      have n2_ := Aside0.mk (below_drew1 HB.out)
      clear BK377
      clear BK378
      clear HB
      have BK377 := n0_
      have BK378 := n1_
      have HB := n2_
      clear n0_ n1_ n2_
      refine start_ (n := 6) (S := fun w' => w'.cell? ⟨gb377, 0, none⟩ = some (.slice A0_0 l0_0.length c0_0) ∧ w'.cell? ⟨gb377, 1, none⟩ = some (.slice A0_1 l0_1.length c0_1) ∧ w'.cell? ⟨gb377, 2, none⟩ = some (.slice A0_2 l0_2.length c0_2) ∧ w'.cell? ⟨gb378, 0, none⟩ = some (.slice A1_0 l1_0.length c1_0) ∧ w'.cell? ⟨gb378, 1, none⟩ = some (.slice A1_1 l1_1.length c1_1) ∧ w'.cell? ⟨gb378, 2, none⟩ = some (.slice A1_2 l1_2.length c1_2)) (ds := []) #[false, false, false, false, false, false] (by kernel_rfl) rfl rfl ⟨(blk_cell BK377.out 0).trans rfl, (blk_cell BK377.out 1).trans rfl, (blk_cell BK377.out 2).trans rfl, (blk_cell BK378.out 0).trans rfl, (blk_cell BK378.out 1).trans rfl, (blk_cell BK378.out 2).trans rfl⟩ (fun hHeld => ?_)
      generalize w38.drew = w39 at BK377 BK378 HB hHeld ⊢
      refine take_ (i := 0) (N := some 20) (v := ?_) (a' := ?_) #[true, false, false, false, false, false] rfl rfl (by kernel_rfl) (fun _ _ _ h => h) (Or.inl ⟨by rfl, ?_⟩) hHeld ?_ ?_
      rotate_left
      ·rintro w' ⟨s0, s1, s2, s3, s4, s5⟩
       go_simp
       with_reducible rfl
      rotate_left
      ·simp only [Act.put, List.setIfInBounds_toArray, List.set_cons_zero, List.set_cons_succ, i64_w, i32_w]
       rfl
      refine take_ (i := 2) (N := some 22) (v := ?_) (a' := ?_) #[true, false, true, false, false, false] rfl rfl (by kernel_rfl) (fun _ _ _ h => h) (Or.inl ⟨by rfl, ?_⟩) hHeld ?_ ?_
      rotate_left
      ·rintro w' ⟨s0, s1, s2, s3, s4, s5⟩
       go_simp
       with_reducible rfl
      rotate_left
      ·simp only [Act.put, List.setIfInBounds_toArray, List.set_cons_zero, List.set_cons_succ, i64_w, i32_w]
       rfl
      refine one_ (i := 1) (N := some 21) #[true, true, true, false, false, false] rfl rfl (by kernel_rfl) (by decide) (fun K hK => ?_)
      refine goes_ Tryd.func14 (by kernel_rfl) rfl #[.agg #[.slice A0_0 l0_0.length c0_0, .slice A0_1 l0_1.length c0_1, .slice A0_2 l0_2.length c0_2]] (by rfl) rfl rfl (by (try simp only [List.map_toArray, List.map_cons, List.map_nil]); first | done | rfl | (simp only [List.length_drop, List.length_take]; rfl)) ?_
      with_reducible refine (laws_toDecl.calls k _ _ l0_0 _ _ l0_1 _ _ l0_2 t381 t384 t387 _ ?side1 ?side2 ?side3 ?side4 ?side5 ?side6 A19.out).mono ?_
      (case side1 => repeat (first | exact (Kd.C_below HR0_0.out HB.out) | (with_reducible refine Kd.C_alloc ?_ _) | (with_reducible refine Kd.C_drewN ?_ _) | (with_reducible refine Kd.C_drew ?_)))
      (case side2 => exact HC0_0.out)
      (case side3 => repeat (first | exact (Kd.C_below HR0_1.out HB.out) | (with_reducible refine Kd.C_alloc ?_ _) | (with_reducible refine Kd.C_drewN ?_ _) | (with_reducible refine Kd.C_drew ?_)))
      (case side4 => exact HC0_1.out)
      (case side5 => repeat (first | exact (Kd.C_below HR0_2.out HB.out) | (with_reducible refine Kd.C_alloc ?_ _) | (with_reducible refine Kd.C_drewN ?_ _) | (with_reducible refine Kd.C_drew ?_)))
      (case side6 => exact HC0_2.out)
      rintro e w40 ⟨v382, v385, v388, rfl, ho0, ho1, ho2, hb⟩
      refine ⟨_, rfl, ?_⟩
      have n0_ := Aside0.mk (Kd.R_lower ho0 (below_size (bw HB)))
      have n1_ := Aside0.mk (Kd.R_lower ho1 (below_size (bw HB)))
      have n2_ := Aside0.mk (Kd.R_lower ho2 (below_size (bw HB)))
      have n3_ := bb BK377 hb
      have n4_ := bb BK378 hb
      have n5_ := bs HB hb
      clear BK377
      clear BK378
      clear HB
      have HO383 := n0_
      have HO386 := n1_
      have HO389 := n2_
      have BK377 := n3_
      have BK378 := n4_
      have HB := n5_
      clear n0_ n1_ n2_ n3_ n4_ n5_
      (try clear hb)
      (try clear hb2)
      (try clear hk)
      (try clear hi)
      (try clear ho0)
      (try clear ho1)
      (try clear ho2)
      refine hK.out _ _ ⟨(blk_cell BK377.out 0).trans rfl, (blk_cell BK377.out 1).trans rfl, (blk_cell BK377.out 2).trans rfl, (blk_cell BK378.out 0).trans rfl, (blk_cell BK378.out 1).trans rfl, (blk_cell BK378.out 2).trans rfl⟩ (fun hHeld => ?_)
      clear hK K
      refine norm_ (a' := ?_) ?_ ?_
      rotate_left
      ·show Act.put _ (some 21) _ = _
       simp only [Act.put, List.setIfInBounds_toArray, List.set_cons_zero, List.set_cons_succ, i64_w, i32_w]
       rfl
      refine one_ (i := 3) (N := some 23) #[true, true, true, true, false, false] rfl rfl (by kernel_rfl) (by decide) (fun K hK => ?_)
      refine goes_ Tryd.func24 (by kernel_rfl) rfl #[.agg #[.slice A1_0 l1_0.length c1_0, .slice A1_1 l1_1.length c1_1, .slice A1_2 l1_2.length c1_2]] (by rfl) rfl rfl (by (try simp only [List.map_toArray, List.map_cons, List.map_nil]); first | done | rfl | (simp only [List.length_drop, List.length_take]; rfl)) ?_
      with_reducible refine (laws_toStore.calls k _ _ l1_0 _ _ l1_1 _ _ l1_2 t390 t393 t396 _ ?side1 ?side2 ?side3 ?side4 ?side5 ?side6 A20.out).mono ?_
      (case side1 => repeat (first | exact (Kd.C_below HR1_0.out HB.out) | (with_reducible refine Kd.C_alloc ?_ _) | (with_reducible refine Kd.C_drewN ?_ _) | (with_reducible refine Kd.C_drew ?_)))
      (case side2 => exact HC1_0.out)
      (case side3 => repeat (first | exact (Kd.C_below HR1_1.out HB.out) | (with_reducible refine Kd.C_alloc ?_ _) | (with_reducible refine Kd.C_drewN ?_ _) | (with_reducible refine Kd.C_drew ?_)))
      (case side4 => exact HC1_1.out)
      (case side5 => repeat (first | exact (Kd.C_below HR1_2.out HB.out) | (with_reducible refine Kd.C_alloc ?_ _) | (with_reducible refine Kd.C_drewN ?_ _) | (with_reducible refine Kd.C_drew ?_)))
      (case side6 => exact HC1_2.out)
      rintro e w41 ⟨v391, v394, v397, rfl, ho0, ho1, ho2, hb⟩
      refine ⟨_, rfl, ?_⟩
      have n0_ := Aside0.mk (Kd.R_below (by (with_reducible repeat (first | apply Kd.R_alloc | apply Kd.R_drewN | apply Kd.R_drew)); exact HO383.out) hb)
      have n1_ := Aside0.mk (Kd.R_below (by (with_reducible repeat (first | apply Kd.R_alloc | apply Kd.R_drewN | apply Kd.R_drew)); exact HO386.out) hb)
      have n2_ := Aside0.mk (Kd.R_below (by (with_reducible repeat (first | apply Kd.R_alloc | apply Kd.R_drewN | apply Kd.R_drew)); exact HO389.out) hb)
      have n3_ := Aside0.mk (Kd.R_lower ho0 (below_size (bw HB)))
      have n4_ := Aside0.mk (Kd.R_lower ho1 (below_size (bw HB)))
      have n5_ := Aside0.mk (Kd.S_lower ho2 (below_size (bw HB)))
      have n6_ := bb BK377 hb
      have n7_ := bb BK378 hb
      have n8_ := bs HB hb
      clear HO383
      clear HO386
      clear HO389
      clear BK377
      clear BK378
      clear HB
      have HO383 := n0_
      have HO386 := n1_
      have HO389 := n2_
      have HO392 := n3_
      have HO395 := n4_
      have HO398 := n5_
      have BK377 := n6_
      have BK378 := n7_
      have HB := n8_
      clear n0_ n1_ n2_ n3_ n4_ n5_ n6_ n7_ n8_
      (try clear hb)
      (try clear hb2)
      (try clear hk)
      (try clear hi)
      (try clear ho0)
      (try clear ho1)
      (try clear ho2)
      obtain ⟨Ao42, co42, eo42⟩ := Kd.R_slice HO383.out
      (first | subst eo42 | (injection eo42 with f1_ f2_ f3_; have f4_ := f1_.symm; have f5_ := f3_.symm; clear f1_ f2_ f3_; subst f4_; subst f5_))
      obtain ⟨Ao43, co43, eo43⟩ := Kd.R_slice HO386.out
      (first | subst eo43 | (injection eo43 with f1_ f2_ f3_; have f4_ := f1_.symm; have f5_ := f3_.symm; clear f1_ f2_ f3_; subst f4_; subst f5_))
      obtain ⟨Ao44, co44, eo44⟩ := Kd.R_slice HO389.out
      (first | subst eo44 | (injection eo44 with f1_ f2_ f3_; have f4_ := f1_.symm; have f5_ := f3_.symm; clear f1_ f2_ f3_; subst f4_; subst f5_))
      obtain ⟨Ao45, co45, eo45⟩ := Kd.R_slice HO392.out
      (first | subst eo45 | (injection eo45 with f1_ f2_ f3_; have f4_ := f1_.symm; have f5_ := f3_.symm; clear f1_ f2_ f3_; subst f4_; subst f5_))
      obtain ⟨Ao46, co46, eo46⟩ := Kd.R_slice HO395.out
      (first | subst eo46 | (injection eo46 with f1_ f2_ f3_; have f4_ := f1_.symm; have f5_ := f3_.symm; clear f1_ f2_ f3_; subst f4_; subst f5_))
      obtain ⟨Ao47, co47, eo47⟩ := Kd.S_slice HO398.out
      (first | subst eo47 | (injection eo47 with f1_ f2_ f3_; have f4_ := f1_.symm; have f5_ := f3_.symm; clear f1_ f2_ f3_; subst f4_; subst f5_))
      refine hK.out _ _ ⟨(blk_cell BK377.out 0).trans rfl, (blk_cell BK377.out 1).trans rfl, (blk_cell BK377.out 2).trans rfl, (blk_cell BK378.out 0).trans rfl, (blk_cell BK378.out 1).trans rfl, (blk_cell BK378.out 2).trans rfl⟩ (fun hHeld => ?_)
      clear hK K
      refine norm_ (a' := ?_) ?_ ?_
      rotate_left
      ·show Act.put _ (some 23) _ = _
       simp only [Act.put, List.setIfInBounds_toArray, List.set_cons_zero, List.set_cons_succ, i64_w, i32_w]
       rfl
      refine one_ (i := 4) (N := some 24) #[true, true, true, true, true, false] rfl rfl (by kernel_rfl) (by decide) (fun K hK => ?_)
      refine goes_ Tryd.func23 (by kernel_rfl) rfl #[.agg #[.slice Ao42 t381.length co42, .slice Ao43 t384.length co43, .slice Ao44 t387.length co44], .agg #[.slice Ao45 t390.length co45, .slice Ao46 t393.length co46, .slice Ao47 t396.length co47]] (by rfl) rfl rfl (by (try simp only [List.map_toArray, List.map_cons, List.map_nil]); first | done | rfl | (simp only [List.length_drop, List.length_take]; rfl)) ?_
      with_reducible refine (spec_StoreOk.calls k _ _ t381 _ _ t384 _ _ t387 _ _ t390 _ _ t393 _ _ t396 t399 _ ?side1 ?side2 ?side3 ?side4 ?side5 ?side6 ?side7 ?side8 ?side9 ?side10 ?side11 ?side12 A21.out).mono ?_
      (case side1 => repeat (first | exact (Kd.R_reads' HO383.out).2.2 | (with_reducible refine Kd.C_alloc ?_ _) | (with_reducible refine Kd.C_drewN ?_ _) | (with_reducible refine Kd.C_drew ?_)))
      (case side2 => exact (Kd.R_reads' HO383.out).2.1)
      (case side3 => repeat (first | exact (Kd.R_reads' HO386.out).2.2 | (with_reducible refine Kd.C_alloc ?_ _) | (with_reducible refine Kd.C_drewN ?_ _) | (with_reducible refine Kd.C_drew ?_)))
      (case side4 => exact (Kd.R_reads' HO386.out).2.1)
      (case side5 => repeat (first | exact (Kd.R_reads' HO389.out).2.2 | (with_reducible refine Kd.C_alloc ?_ _) | (with_reducible refine Kd.C_drewN ?_ _) | (with_reducible refine Kd.C_drew ?_)))
      (case side6 => exact (Kd.R_reads' HO389.out).2.1)
      (case side7 => repeat (first | exact (Kd.R_reads' HO392.out).2.2 | (with_reducible refine Kd.C_alloc ?_ _) | (with_reducible refine Kd.C_drewN ?_ _) | (with_reducible refine Kd.C_drew ?_)))
      (case side8 => exact (Kd.R_reads' HO392.out).2.1)
      (case side9 => repeat (first | exact (Kd.R_reads' HO395.out).2.2 | (with_reducible refine Kd.C_alloc ?_ _) | (with_reducible refine Kd.C_drewN ?_ _) | (with_reducible refine Kd.C_drew ?_)))
      (case side10 => exact (Kd.R_reads' HO395.out).2.1)
      (case side11 => repeat (first | exact (Kd.S_reads' HO398.out).2.2 | (with_reducible refine Kd.C_alloc ?_ _) | (with_reducible refine Kd.C_drewN ?_ _) | (with_reducible refine Kd.C_drew ?_)))
      (case side12 => exact (Kd.S_reads' HO398.out).2.1)
      rintro e w48 ⟨rfl, hb⟩
      refine ⟨_, rfl, ?_⟩
      have n0_ := Aside0.mk (Kd.R_below (by (with_reducible repeat (first | apply Kd.R_alloc | apply Kd.R_drewN | apply Kd.R_drew)); exact HO383.out) hb)
      have n1_ := Aside0.mk (Kd.R_below (by (with_reducible repeat (first | apply Kd.R_alloc | apply Kd.R_drewN | apply Kd.R_drew)); exact HO386.out) hb)
      have n2_ := Aside0.mk (Kd.R_below (by (with_reducible repeat (first | apply Kd.R_alloc | apply Kd.R_drewN | apply Kd.R_drew)); exact HO389.out) hb)
      have n3_ := Aside0.mk (Kd.R_below (by (with_reducible repeat (first | apply Kd.R_alloc | apply Kd.R_drewN | apply Kd.R_drew)); exact HO392.out) hb)
      have n4_ := Aside0.mk (Kd.R_below (by (with_reducible repeat (first | apply Kd.R_alloc | apply Kd.R_drewN | apply Kd.R_drew)); exact HO395.out) hb)
      have n5_ := Aside0.mk (Kd.S_below (by (with_reducible repeat (first | apply Kd.S_alloc | apply Kd.S_drewN | apply Kd.S_drew)); exact HO398.out) hb)
      have n6_ := bb BK377 hb
      have n7_ := bb BK378 hb
      have n8_ := bs HB hb
      clear HO383
      clear HO386
      clear HO389
      clear HO392
      clear HO395
      clear HO398
      clear BK377
      clear BK378
      clear HB
      have HO383 := n0_
      have HO386 := n1_
      have HO389 := n2_
      have HO392 := n3_
      have HO395 := n4_
      have HO398 := n5_
      have BK377 := n6_
      have BK378 := n7_
      have HB := n8_
      clear n0_ n1_ n2_ n3_ n4_ n5_ n6_ n7_ n8_
      (try clear hb)
      (try clear hb2)
      (try clear hk)
      (try clear hi)
      refine hK.out _ _ ⟨(blk_cell BK377.out 0).trans rfl, (blk_cell BK377.out 1).trans rfl, (blk_cell BK377.out 2).trans rfl, (blk_cell BK378.out 0).trans rfl, (blk_cell BK378.out 1).trans rfl, (blk_cell BK378.out 2).trans rfl⟩ (fun hHeld => ?_)
      clear hK K
      refine norm_ (a' := ?_) ?_ ?_
      rotate_left
      ·show Act.put _ (some 24) _ = _
       simp only [Act.put, List.setIfInBounds_toArray, List.set_cons_zero, List.set_cons_succ, i64_w, i32_w]
       rfl
      refine pure_ (i := 5) (N := some 6) (v := ?_) (a' := ?_) #[true, true, true, true, true, true] rfl rfl (by kernel_rfl) (fun _ _ _ h => h) (Or.inl ⟨by rfl, ?_⟩) ?_ ?_
      rotate_left
      ·intro w'
       go_simp
       with_reducible rfl
      rotate_left
      ·simp only [Act.put, List.setIfInBounds_toArray, List.set_cons_zero, List.set_cons_succ, i64_w, i32_w]
       rfl
      refine done_ (by kernel_rfl) ?_
      have hcz49_0 : w48.cell? ⟨gb377, 0, none⟩ = some (.slice A0_0 l0_0.length c0_0) := (blk_cell BK377.out 0).trans rfl
      have hcz49_1 : w48.cell? ⟨gb377, 1, none⟩ = some (.slice A0_1 l0_1.length c0_1) := (blk_cell BK377.out 1).trans rfl
      have hcz49_2 : w48.cell? ⟨gb377, 2, none⟩ = some (.slice A0_2 l0_2.length c0_2) := (blk_cell BK377.out 2).trans rfl
      have hfz49_0 := blk_frozen BK377.out 0
      have hfz49_1 := blk_frozen BK377.out 1
      have hfz49_2 := blk_frozen BK377.out 2
      try go_wp2_with (first | ((with_reducible refine gate_callee (f := 14) rfl ?_); refine goesL_ (some 26) rfl rfl Tryd.func14 (by kernel_rfl) rfl #[.agg #[.slice A0_0 l0_0.length c0_0, .slice A0_1 l0_1.length c0_1, .slice A0_2 l0_2.length c0_2]] rfl (by (try simp only [List.map_toArray, List.map_cons, List.map_nil]); first | done | rfl | (simp only [List.length_drop, List.length_take]; rfl)) ?_; (with_reducible refine (laws_toDecl.calls k _ _ l0_0 _ _ l0_1 _ _ l0_2 t400 t403 t406 _ ?side1 ?side2 ?side3 ?side4 ?side5 ?side6 A22.out).mono ?_); (case side1 => repeat (first | exact (Kd.C_below HR0_0.out HB.out) | (with_reducible refine Kd.C_alloc ?_ _) | (with_reducible refine Kd.C_drewN ?_ _) | (with_reducible refine Kd.C_drew ?_))); (case side2 => exact HC0_0.out); (case side3 => repeat (first | exact (Kd.C_below HR0_1.out HB.out) | (with_reducible refine Kd.C_alloc ?_ _) | (with_reducible refine Kd.C_drewN ?_ _) | (with_reducible refine Kd.C_drew ?_))); (case side4 => exact HC0_1.out); (case side5 => repeat (first | exact (Kd.C_below HR0_2.out HB.out) | (with_reducible refine Kd.C_alloc ?_ _) | (with_reducible refine Kd.C_drewN ?_ _) | (with_reducible refine Kd.C_drew ?_))); (case side6 => exact HC0_2.out); rintro e w50 ⟨v401, v404, v407, rfl, ho0, ho1, ho2, hb⟩; refine ⟨_, rfl, ?_⟩; replace HO392 := Aside0.mk (Kd.R_below (by (with_reducible repeat (first | apply Kd.R_alloc | apply Kd.R_drewN | apply Kd.R_drew)); exact HO392.out) hb); replace HO395 := Aside0.mk (Kd.R_below (by (with_reducible repeat (first | apply Kd.R_alloc | apply Kd.R_drewN | apply Kd.R_drew)); exact HO395.out) hb); replace HO398 := Aside0.mk (Kd.S_below (by (with_reducible repeat (first | apply Kd.S_alloc | apply Kd.S_drewN | apply Kd.S_drew)); exact HO398.out) hb); have HO402 := Aside0.mk (Kd.R_lower (Kd.R_new' (Kd.R_new' ho0 (Kd.R_lt (by (with_reducible repeat (first | apply Kd.R_alloc | apply Kd.R_drewN | apply Kd.R_drew)); exact HO383.out))) (Kd.R_lt (by (with_reducible repeat (first | apply Kd.R_alloc | apply Kd.R_drewN | apply Kd.R_drew)); exact HO386.out))) (below_size (bw HB))); have HO405 := Aside0.mk (Kd.R_lower (Kd.R_new' (Kd.R_new' ho1 (Kd.R_lt (by (with_reducible repeat (first | apply Kd.R_alloc | apply Kd.R_drewN | apply Kd.R_drew)); exact HO383.out))) (Kd.R_lt (by (with_reducible repeat (first | apply Kd.R_alloc | apply Kd.R_drewN | apply Kd.R_drew)); exact HO386.out))) (below_size (bw HB))); replace HO383 := Aside0.mk (Kd.R_mono (Kd.R_told (Kd.R_told (Kd.R_old (by (with_reducible repeat (first | apply Kd.R_alloc | apply Kd.R_drewN | apply Kd.R_drew)); exact HO383.out) hb) (Kd.R_base ho0)) (Kd.R_base ho1)) (fun _ h_ => h_.1)); replace HO386 := Aside0.mk (Kd.R_mono (Kd.R_told (Kd.R_told (Kd.R_old (by (with_reducible repeat (first | apply Kd.R_alloc | apply Kd.R_drewN | apply Kd.R_drew)); exact HO386.out) hb) (Kd.R_base ho0)) (Kd.R_base ho1)) (fun _ h_ => h_.1)); have HO408 := Aside0.mk (Kd.R_lower (Kd.R_new' ho2 (Kd.R_lt (by (with_reducible repeat (first | apply Kd.R_alloc | apply Kd.R_drewN | apply Kd.R_drew)); exact HO389.out))) (below_size (bw HB))); replace HO389 := Aside0.mk (Kd.R_elder' (by (with_reducible repeat (first | apply Kd.R_alloc | apply Kd.R_drewN | apply Kd.R_drew)); exact HO389.out) (Kd.R_base ho2) hb); replace BK377 := bb BK377 hb; replace BK378 := bb BK378 hb; replace HB := bs HB hb; (try clear hb); (try clear hb2); (try clear hk); (try clear hi); (try clear ho0); (try clear ho1); (try clear ho2)) | ((with_reducible refine gate_dst (N := 7) rfl ?_); refine box_event rfl rfl (cs := #[.slice none 0 0, .slice none 0 0, .slice none 0 0]) (t := 30) (by first | (go_simp; done) | (go_simp; rfl)) ?_; intro gb409 hg w51 hbox hb; replace HO383 := Aside0.mk (Kd.R_below (by (with_reducible repeat (first | apply Kd.R_alloc | apply Kd.R_drewN | apply Kd.R_drew)); exact HO383.out) hb); replace HO386 := Aside0.mk (Kd.R_below (by (with_reducible repeat (first | apply Kd.R_alloc | apply Kd.R_drewN | apply Kd.R_drew)); exact HO386.out) hb); replace HO389 := Aside0.mk (Kd.R_below (by (with_reducible repeat (first | apply Kd.R_alloc | apply Kd.R_drewN | apply Kd.R_drew)); exact HO389.out) hb); replace HO392 := Aside0.mk (Kd.R_below (by (with_reducible repeat (first | apply Kd.R_alloc | apply Kd.R_drewN | apply Kd.R_drew)); exact HO392.out) hb); replace HO395 := Aside0.mk (Kd.R_below (by (with_reducible repeat (first | apply Kd.R_alloc | apply Kd.R_drewN | apply Kd.R_drew)); exact HO395.out) hb); replace HO398 := Aside0.mk (Kd.S_below (by (with_reducible repeat (first | apply Kd.S_alloc | apply Kd.S_drewN | apply Kd.S_drew)); exact HO398.out) hb); replace HO402 := Aside0.mk (Kd.R_below (by (with_reducible repeat (first | apply Kd.R_alloc | apply Kd.R_drewN | apply Kd.R_drew)); exact HO402.out) hb); replace HO405 := Aside0.mk (Kd.R_below (by (with_reducible repeat (first | apply Kd.R_alloc | apply Kd.R_drewN | apply Kd.R_drew)); exact HO405.out) hb); replace HO408 := Aside0.mk (Kd.R_below (by (with_reducible repeat (first | apply Kd.R_alloc | apply Kd.R_drewN | apply Kd.R_drew)); exact HO408.out) hb); have BK409 := Aside0.mk (hbox); have GW409 := bz HB hg; have GE409 := bz HB hg; replace HB := bs HB hb; have NB377_409 := bl BK377 hg; have NB409_377 := bg BK377 hg; replace BK377 := bb BK377 hb; have NB378_409 := bl BK378 hg; have NB409_378 := bg BK378 hg; replace BK378 := bb BK378 hb; clear hb hbox hg; obtain ⟨Ao52, co52, eo52⟩ := Kd.R_slice HO402.out; subst eo52; have hnb53 := NB409_377.out; have hnc53 := NB377_409.out; have hnb54 := NB409_378.out; have hnc54 := NB378_409.out; have hcz55_0 : w51.cell? ⟨gb409, 0, none⟩ = some (.slice none 0 0) := (blk_cell BK409.out 0).trans rfl; have hcz55_1 : w51.cell? ⟨gb409, 1, none⟩ = some (.slice none 0 0) := (blk_cell BK409.out 1).trans rfl; have hcz55_2 : w51.cell? ⟨gb409, 2, none⟩ = some (.slice none 0 0) := (blk_cell BK409.out 2).trans rfl; have hfz55_0 := blk_frozen BK409.out 0; have hfz55_1 := blk_frozen BK409.out 1; have hfz55_2 := blk_frozen BK409.out 2; obtain ⟨Ao56, co56, eo56⟩ := Kd.R_slice HO405.out; subst eo56; obtain ⟨Ao57, co57, eo57⟩ := Kd.R_slice HO408.out; subst eo57; have hcz58_0 : w51.cell? ⟨gb378, 0, none⟩ = some (.slice A1_0 l1_0.length c1_0) := (blk_cell BK378.out 0).trans rfl; have hcz58_1 : w51.cell? ⟨gb378, 1, none⟩ = some (.slice A1_1 l1_1.length c1_1) := (blk_cell BK378.out 1).trans rfl; have hcz58_2 : w51.cell? ⟨gb378, 2, none⟩ = some (.slice A1_2 l1_2.length c1_2) := (blk_cell BK378.out 2).trans rfl; have hfz58_0 := blk_frozen BK378.out 0; have hfz58_1 := blk_frozen BK378.out 1; have hfz58_2 := blk_frozen BK378.out 2) | ((with_reducible refine gate_callee (f := 24) rfl ?_); refine goesL_ (some 28) rfl rfl Tryd.func24 (by kernel_rfl) rfl #[.agg #[.slice A1_0 l1_0.length c1_0, .slice A1_1 l1_1.length c1_1, .slice A1_2 l1_2.length c1_2]] rfl (by (try simp only [List.map_toArray, List.map_cons, List.map_nil]); first | done | rfl | (simp only [List.length_drop, List.length_take]; rfl)) ?_; (with_reducible refine (laws_toStore.calls k _ _ l1_0 _ _ l1_1 _ _ l1_2 t410 t413 t416 _ ?side1 ?side2 ?side3 ?side4 ?side5 ?side6 A23.out).mono ?_); (case side1 => exact Kd.C_below HR1_0.out (bw HB)); (case side2 => exact HC1_0.out); (case side3 => exact Kd.C_below HR1_1.out (bw HB)); (case side4 => exact HC1_1.out); (case side5 => exact Kd.C_below HR1_2.out (bw HB)); (case side6 => exact HC1_2.out); rintro e w59 ⟨v411, v414, v417, rfl, ho0, ho1, ho2, hb⟩; refine ⟨_, rfl, ?_⟩; replace HO383 := Aside0.mk (Kd.R_below (by (with_reducible repeat (first | apply Kd.R_alloc | apply Kd.R_drewN | apply Kd.R_drew)); exact (Kd.R_mono (Kd.R_far (p := ⟨gb409, 2, none⟩) (Kd.R_far (p := ⟨gb409, 1, none⟩) (Kd.R_far (p := ⟨gb409, 0, none⟩) (Kd.R_types HO383.out BK409.out (by decide)) (fun _ hk => hk.2) (.slice Ao52 t400.length co52)) (fun _ hk => hk.2) (.slice Ao56 t403.length co56)) (fun _ hk => hk.2) (.slice Ao57 t406.length co57)) (fun _ h_ => h_.1))) hb); replace HO386 := Aside0.mk (Kd.R_below (by (with_reducible repeat (first | apply Kd.R_alloc | apply Kd.R_drewN | apply Kd.R_drew)); exact (Kd.R_mono (Kd.R_far (p := ⟨gb409, 2, none⟩) (Kd.R_far (p := ⟨gb409, 1, none⟩) (Kd.R_far (p := ⟨gb409, 0, none⟩) (Kd.R_types HO386.out BK409.out (by decide)) (fun _ hk => hk.2) (.slice Ao52 t400.length co52)) (fun _ hk => hk.2) (.slice Ao56 t403.length co56)) (fun _ hk => hk.2) (.slice Ao57 t406.length co57)) (fun _ h_ => h_.1))) hb); replace HO389 := Aside0.mk (Kd.R_below (by (with_reducible repeat (first | apply Kd.R_alloc | apply Kd.R_drewN | apply Kd.R_drew)); exact (Kd.R_mono (Kd.R_far (p := ⟨gb409, 2, none⟩) (Kd.R_far (p := ⟨gb409, 1, none⟩) (Kd.R_far (p := ⟨gb409, 0, none⟩) (Kd.R_types HO389.out BK409.out (by decide)) (fun _ hk => hk.2) (.slice Ao52 t400.length co52)) (fun _ hk => hk.2) (.slice Ao56 t403.length co56)) (fun _ hk => hk.2) (.slice Ao57 t406.length co57)) (fun _ h_ => h_.1))) hb); replace HO402 := Aside0.mk (Kd.R_below (by (with_reducible repeat (first | apply Kd.R_alloc | apply Kd.R_drewN | apply Kd.R_drew)); exact (Kd.R_mono (Kd.R_far (p := ⟨gb409, 2, none⟩) (Kd.R_far (p := ⟨gb409, 1, none⟩) (Kd.R_far (p := ⟨gb409, 0, none⟩) (Kd.R_types HO402.out BK409.out (by decide)) (fun _ hk => hk.2) (.slice Ao52 t400.length co52)) (fun _ hk => hk.2) (.slice Ao56 t403.length co56)) (fun _ hk => hk.2) (.slice Ao57 t406.length co57)) (fun _ h_ => h_.1))) hb); replace HO405 := Aside0.mk (Kd.R_below (by (with_reducible repeat (first | apply Kd.R_alloc | apply Kd.R_drewN | apply Kd.R_drew)); exact (Kd.R_mono (Kd.R_far (p := ⟨gb409, 2, none⟩) (Kd.R_far (p := ⟨gb409, 1, none⟩) (Kd.R_far (p := ⟨gb409, 0, none⟩) (Kd.R_types HO405.out BK409.out (by decide)) (fun _ hk => hk.2) (.slice Ao52 t400.length co52)) (fun _ hk => hk.2) (.slice Ao56 t403.length co56)) (fun _ hk => hk.2) (.slice Ao57 t406.length co57)) (fun _ h_ => h_.1))) hb); replace HO408 := Aside0.mk (Kd.R_below (by (with_reducible repeat (first | apply Kd.R_alloc | apply Kd.R_drewN | apply Kd.R_drew)); exact (Kd.R_mono (Kd.R_far (p := ⟨gb409, 2, none⟩) (Kd.R_far (p := ⟨gb409, 1, none⟩) (Kd.R_far (p := ⟨gb409, 0, none⟩) (Kd.R_types HO408.out BK409.out (by decide)) (fun _ hk => hk.2) (.slice Ao52 t400.length co52)) (fun _ hk => hk.2) (.slice Ao56 t403.length co56)) (fun _ hk => hk.2) (.slice Ao57 t406.length co57)) (fun _ h_ => h_.1))) hb); have HO412 := Aside0.mk (Kd.R_lower (Kd.R_new' ho0 (Kd.R_lt (by (with_reducible repeat (first | apply Kd.R_alloc | apply Kd.R_drewN | apply Kd.R_drew)); exact (Kd.R_mono (Kd.R_far (p := ⟨gb409, 2, none⟩) (Kd.R_far (p := ⟨gb409, 1, none⟩) (Kd.R_far (p := ⟨gb409, 0, none⟩) (Kd.R_types HO392.out BK409.out (by decide)) (fun _ hk => hk.2) (.slice Ao52 t400.length co52)) (fun _ hk => hk.2) (.slice Ao56 t403.length co56)) (fun _ hk => hk.2) (.slice Ao57 t406.length co57)) (fun _ h_ => h_.1))))) (below_size (bw HB))); have HO415 := Aside0.mk (Kd.R_lower (Kd.R_new' ho1 (Kd.R_lt (by (with_reducible repeat (first | apply Kd.R_alloc | apply Kd.R_drewN | apply Kd.R_drew)); exact (Kd.R_mono (Kd.R_far (p := ⟨gb409, 2, none⟩) (Kd.R_far (p := ⟨gb409, 1, none⟩) (Kd.R_far (p := ⟨gb409, 0, none⟩) (Kd.R_types HO395.out BK409.out (by decide)) (fun _ hk => hk.2) (.slice Ao52 t400.length co52)) (fun _ hk => hk.2) (.slice Ao56 t403.length co56)) (fun _ hk => hk.2) (.slice Ao57 t406.length co57)) (fun _ h_ => h_.1))))) (below_size (bw HB))); replace HO395 := Aside0.mk (Kd.R_elder' (by (with_reducible repeat (first | apply Kd.R_alloc | apply Kd.R_drewN | apply Kd.R_drew)); exact (Kd.R_mono (Kd.R_far (p := ⟨gb409, 2, none⟩) (Kd.R_far (p := ⟨gb409, 1, none⟩) (Kd.R_far (p := ⟨gb409, 0, none⟩) (Kd.R_types HO395.out BK409.out (by decide)) (fun _ hk => hk.2) (.slice Ao52 t400.length co52)) (fun _ hk => hk.2) (.slice Ao56 t403.length co56)) (fun _ hk => hk.2) (.slice Ao57 t406.length co57)) (fun _ h_ => h_.1))) (Kd.R_base ho1) hb); have HO418 := Aside0.mk (Kd.S_lower (Kd.S_new' (Kd.S_new' ho2 (Kd.R_lt (by (with_reducible repeat (first | apply Kd.R_alloc | apply Kd.R_drewN | apply Kd.R_drew)); exact (Kd.R_mono (Kd.R_far (p := ⟨gb409, 2, none⟩) (Kd.R_far (p := ⟨gb409, 1, none⟩) (Kd.R_far (p := ⟨gb409, 0, none⟩) (Kd.R_types HO392.out BK409.out (by decide)) (fun _ hk => hk.2) (.slice Ao52 t400.length co52)) (fun _ hk => hk.2) (.slice Ao56 t403.length co56)) (fun _ hk => hk.2) (.slice Ao57 t406.length co57)) (fun _ h_ => h_.1))))) (Kd.S_lt (by (with_reducible repeat (first | apply Kd.S_alloc | apply Kd.S_drewN | apply Kd.S_drew)); exact (Kd.S_mono (Kd.S_far (p := ⟨gb409, 2, none⟩) (Kd.S_far (p := ⟨gb409, 1, none⟩) (Kd.S_far (p := ⟨gb409, 0, none⟩) (Kd.S_types HO398.out BK409.out (by decide)) (fun _ hk => hk.2) (.slice Ao52 t400.length co52)) (fun _ hk => hk.2) (.slice Ao56 t403.length co56)) (fun _ hk => hk.2) (.slice Ao57 t406.length co57)) (fun _ h_ => h_.1))))) (below_size (bw HB))); replace HO392 := Aside0.mk (Kd.R_elder' (by (with_reducible repeat (first | apply Kd.R_alloc | apply Kd.R_drewN | apply Kd.R_drew)); exact (Kd.R_mono (Kd.R_far (p := ⟨gb409, 2, none⟩) (Kd.R_far (p := ⟨gb409, 1, none⟩) (Kd.R_far (p := ⟨gb409, 0, none⟩) (Kd.R_types HO392.out BK409.out (by decide)) (fun _ hk => hk.2) (.slice Ao52 t400.length co52)) (fun _ hk => hk.2) (.slice Ao56 t403.length co56)) (fun _ hk => hk.2) (.slice Ao57 t406.length co57)) (fun _ h_ => h_.1))) (Kd.R_base ho0) hb); replace HO398 := Aside0.mk (Kd.S_mono (Kd.S_told (Kd.S_told (Kd.S_old (by (with_reducible repeat (first | apply Kd.S_alloc | apply Kd.S_drewN | apply Kd.S_drew)); exact (Kd.S_mono (Kd.S_far (p := ⟨gb409, 2, none⟩) (Kd.S_far (p := ⟨gb409, 1, none⟩) (Kd.S_far (p := ⟨gb409, 0, none⟩) (Kd.S_types HO398.out BK409.out (by decide)) (fun _ hk => hk.2) (.slice Ao52 t400.length co52)) (fun _ hk => hk.2) (.slice Ao56 t403.length co56)) (fun _ hk => hk.2) (.slice Ao57 t406.length co57)) (fun _ h_ => h_.1))) hb) (Kd.R_base ho0)) (Kd.S_base ho2)) (fun _ h_ => h_.1)); replace BK377 := Aside0.mk (blk_below (g := gb377) (o := .cells #[.slice A0_0 l0_0.length c0_0, .slice A0_1 l0_1.length c0_1, .slice A0_2 l0_2.length c0_2] 25 (0, 0)) (bx BK377) hb); replace BK378 := Aside0.mk (blk_below (g := gb378) (o := .cells #[.slice A1_0 l1_0.length c1_0, .slice A1_1 l1_1.length c1_1, .slice A1_2 l1_2.length c1_2] 49 (0, 0)) (bx BK378) hb); replace BK409 := Aside0.mk (blk_below (g := gb409) (o := .cells #[.slice Ao52 t400.length co52, .slice Ao56 t403.length co56, .slice Ao57 t406.length co57] 30 (0, 0)) (by (with_reducible repeat (first | refine blk_drewN ?_ _ | refine blk_drew ?_ | refine blk_alloc ?_ _)); refine blk_put (cs := #[.slice Ao52 t400.length co52, .slice Ao56 t403.length co56, .slice none 0 0]) ?_ 2 _ rfl; (with_reducible repeat (first | refine blk_drewN ?_ _ | refine blk_drew ?_ | refine blk_alloc ?_ _)); refine blk_put (cs := #[.slice Ao52 t400.length co52, .slice none 0 0, .slice none 0 0]) ?_ 1 _ rfl; (with_reducible repeat (first | refine blk_drewN ?_ _ | refine blk_drew ?_ | refine blk_alloc ?_ _)); refine blk_put (cs := #[.slice none 0 0, .slice none 0 0, .slice none 0 0]) ?_ 0 _ rfl; (with_reducible repeat (first | refine blk_drewN ?_ _ | refine blk_drew ?_ | refine blk_alloc ?_ _)); exact BK409.out) hb); replace HB := bs HB hb; (try clear hb); (try clear hb2); (try clear hk); (try clear hi); (try clear ho0); (try clear ho1); (try clear ho2)) | ((with_reducible refine gate_dst (N := 8) rfl ?_); refine box_event rfl rfl (cs := #[.slice none 0 0, .slice none 0 0, .slice none 0 0]) (t := 52) (by first | (go_simp; done) | (go_simp; rfl)) ?_; intro gb419 hg w60 hbox hb; replace HO383 := Aside0.mk (Kd.R_below (by (with_reducible repeat (first | apply Kd.R_alloc | apply Kd.R_drewN | apply Kd.R_drew)); exact HO383.out) hb); replace HO386 := Aside0.mk (Kd.R_below (by (with_reducible repeat (first | apply Kd.R_alloc | apply Kd.R_drewN | apply Kd.R_drew)); exact HO386.out) hb); replace HO389 := Aside0.mk (Kd.R_below (by (with_reducible repeat (first | apply Kd.R_alloc | apply Kd.R_drewN | apply Kd.R_drew)); exact HO389.out) hb); replace HO392 := Aside0.mk (Kd.R_below (by (with_reducible repeat (first | apply Kd.R_alloc | apply Kd.R_drewN | apply Kd.R_drew)); exact HO392.out) hb); replace HO395 := Aside0.mk (Kd.R_below (by (with_reducible repeat (first | apply Kd.R_alloc | apply Kd.R_drewN | apply Kd.R_drew)); exact HO395.out) hb); replace HO398 := Aside0.mk (Kd.S_below (by (with_reducible repeat (first | apply Kd.S_alloc | apply Kd.S_drewN | apply Kd.S_drew)); exact HO398.out) hb); replace HO402 := Aside0.mk (Kd.R_below (by (with_reducible repeat (first | apply Kd.R_alloc | apply Kd.R_drewN | apply Kd.R_drew)); exact HO402.out) hb); replace HO405 := Aside0.mk (Kd.R_below (by (with_reducible repeat (first | apply Kd.R_alloc | apply Kd.R_drewN | apply Kd.R_drew)); exact HO405.out) hb); replace HO408 := Aside0.mk (Kd.R_below (by (with_reducible repeat (first | apply Kd.R_alloc | apply Kd.R_drewN | apply Kd.R_drew)); exact HO408.out) hb); replace HO412 := Aside0.mk (Kd.R_below (by (with_reducible repeat (first | apply Kd.R_alloc | apply Kd.R_drewN | apply Kd.R_drew)); exact HO412.out) hb); replace HO415 := Aside0.mk (Kd.R_below (by (with_reducible repeat (first | apply Kd.R_alloc | apply Kd.R_drewN | apply Kd.R_drew)); exact HO415.out) hb); replace HO418 := Aside0.mk (Kd.S_below (by (with_reducible repeat (first | apply Kd.S_alloc | apply Kd.S_drewN | apply Kd.S_drew)); exact HO418.out) hb); have BK419 := Aside0.mk (hbox); have GW419 := bz HB hg; have GE419 := bz HB hg; replace HB := bs HB hb; have NB377_419 := bl BK377 hg; have NB419_377 := bg BK377 hg; replace BK377 := bb BK377 hb; have NB378_419 := bl BK378 hg; have NB419_378 := bg BK378 hg; replace BK378 := bb BK378 hb; have NB409_419 := bl BK409 hg; have NB419_409 := bg BK409 hg; replace BK409 := bb BK409 hb; clear hb hbox hg; obtain ⟨Ao61, co61, eo61⟩ := Kd.R_slice HO412.out; subst eo61; have hnb62 := NB419_377.out; have hnc62 := NB377_419.out; have hnb63 := NB419_378.out; have hnc63 := NB378_419.out; have hnb64 := NB419_409.out; have hnc64 := NB409_419.out; have hcz65_0 : w60.cell? ⟨gb419, 0, none⟩ = some (.slice none 0 0) := (blk_cell BK419.out 0).trans rfl; have hcz65_1 : w60.cell? ⟨gb419, 1, none⟩ = some (.slice none 0 0) := (blk_cell BK419.out 1).trans rfl; have hcz65_2 : w60.cell? ⟨gb419, 2, none⟩ = some (.slice none 0 0) := (blk_cell BK419.out 2).trans rfl; have hfz65_0 := blk_frozen BK419.out 0; have hfz65_1 := blk_frozen BK419.out 1; have hfz65_2 := blk_frozen BK419.out 2; obtain ⟨Ao66, co66, eo66⟩ := Kd.R_slice HO415.out; subst eo66; obtain ⟨Ao67, co67, eo67⟩ := Kd.S_slice HO418.out; subst eo67; have hcz68_0 : w60.cell? ⟨gb409, 0, none⟩ = some (.slice Ao52 t400.length co52) := (blk_cell BK409.out 0).trans rfl; have hcz68_1 : w60.cell? ⟨gb409, 1, none⟩ = some (.slice Ao56 t403.length co56) := (blk_cell BK409.out 1).trans rfl; have hcz68_2 : w60.cell? ⟨gb409, 2, none⟩ = some (.slice Ao57 t406.length co57) := (blk_cell BK409.out 2).trans rfl; have hfz68_0 := blk_frozen BK409.out 0; have hfz68_1 := blk_frozen BK409.out 1; have hfz68_2 := blk_frozen BK409.out 2) | ((with_reducible refine gate_callee (f := 25) rfl ?_); refine goesL_ (some 31) rfl rfl Tryd.func25 (by kernel_rfl) rfl #[.agg #[.slice Ao52 t400.length co52, .slice Ao56 t403.length co56, .slice Ao57 t406.length co57], .agg #[.slice Ao61 t410.length co61, .slice Ao66 t413.length co66, .slice Ao67 t416.length co67]] rfl (by (try simp only [List.map_toArray, List.map_cons, List.map_nil]); first | done | rfl | (simp only [List.length_drop, List.length_take]; rfl)) ?_; (with_reducible refine (impl_StoreOk.calls k _ _ t400 _ _ t403 _ _ t406 _ _ t410 _ _ t413 _ _ t416 t420 _ ?side1 ?side2 ?side3 ?side4 ?side5 ?side6 ?side7 ?side8 ?side9 ?side10 ?side11 ?side12 A24.out).mono ?_); (case side1 => refine (Kd.R_reads' (e := 9) (base := w.heap.size) (ok := fun k_ => ((some k_ ≠ (.slice Ao56 t403.length co56 : Value).ownBlock ∧ some k_ ≠ (.slice Ao42 t381.length co42 : Value).ownBlock) ∧ some k_ ≠ (.slice Ao43 t384.length co43 : Value).ownBlock)) (n := t400.length) (c := co52) ?_).2.2; exact (by (with_reducible repeat (first | apply Kd.R_alloc | apply Kd.R_drewN | apply Kd.R_drew)); exact (Kd.R_mono (Kd.R_far (p := ⟨gb419, 2, none⟩) (Kd.R_far (p := ⟨gb419, 1, none⟩) (Kd.R_far (p := ⟨gb419, 0, none⟩) (Kd.R_types HO402.out BK419.out (by decide)) (fun _ hk => hk.2) (.slice Ao61 t410.length co61)) (fun _ hk => hk.2) (.slice Ao66 t413.length co66)) (fun _ hk => hk.2) (.slice Ao67 t416.length co67)) (fun _ h_ => h_.1)))); (case side2 => exact (Kd.R_reads' HO402.out).2.1); (case side3 => refine (Kd.R_reads' (e := 9) (base := w.heap.size) (ok := fun k_ => ((some k_ ≠ (.slice Ao52 t400.length co52 : Value).ownBlock ∧ some k_ ≠ (.slice Ao42 t381.length co42 : Value).ownBlock) ∧ some k_ ≠ (.slice Ao43 t384.length co43 : Value).ownBlock)) (n := t403.length) (c := co56) ?_).2.2; exact (by (with_reducible repeat (first | apply Kd.R_alloc | apply Kd.R_drewN | apply Kd.R_drew)); exact (Kd.R_mono (Kd.R_far (p := ⟨gb419, 2, none⟩) (Kd.R_far (p := ⟨gb419, 1, none⟩) (Kd.R_far (p := ⟨gb419, 0, none⟩) (Kd.R_types HO405.out BK419.out (by decide)) (fun _ hk => hk.2) (.slice Ao61 t410.length co61)) (fun _ hk => hk.2) (.slice Ao66 t413.length co66)) (fun _ hk => hk.2) (.slice Ao67 t416.length co67)) (fun _ h_ => h_.1)))); (case side4 => exact (Kd.R_reads' HO405.out).2.1); (case side5 => refine (Kd.R_reads' (e := 91) (base := w.heap.size) (ok := fun k_ => (True ∧ some k_ ≠ (.slice Ao44 t387.length co44 : Value).ownBlock)) (n := t406.length) (c := co57) ?_).2.2; exact (by (with_reducible repeat (first | apply Kd.R_alloc | apply Kd.R_drewN | apply Kd.R_drew)); exact (Kd.R_mono (Kd.R_far (p := ⟨gb419, 2, none⟩) (Kd.R_far (p := ⟨gb419, 1, none⟩) (Kd.R_far (p := ⟨gb419, 0, none⟩) (Kd.R_types HO408.out BK419.out (by decide)) (fun _ hk => hk.2) (.slice Ao61 t410.length co61)) (fun _ hk => hk.2) (.slice Ao66 t413.length co66)) (fun _ hk => hk.2) (.slice Ao67 t416.length co67)) (fun _ h_ => h_.1)))); (case side6 => exact (Kd.R_reads' HO408.out).2.1); (case side7 => refine (Kd.R_reads' (e := 2) (base := w.heap.size) (ok := fun k_ => (True ∧ some k_ ≠ (.slice Ao45 t390.length co45 : Value).ownBlock)) (n := t410.length) (c := co61) ?_).2.2; exact (by (with_reducible repeat (first | apply Kd.R_alloc | apply Kd.R_drewN | apply Kd.R_drew)); exact (Kd.R_mono (Kd.R_far (p := ⟨gb419, 2, none⟩) (Kd.R_far (p := ⟨gb419, 1, none⟩) (Kd.R_far (p := ⟨gb419, 0, none⟩) (Kd.R_types HO412.out BK419.out (by decide)) (fun _ hk => hk.2) (.slice Ao61 t410.length co61)) (fun _ hk => hk.2) (.slice Ao66 t413.length co66)) (fun _ hk => hk.2) (.slice Ao67 t416.length co67)) (fun _ h_ => h_.1)))); (case side8 => exact (Kd.R_reads' HO412.out).2.1); (case side9 => refine (Kd.R_reads' (e := 4) (base := w.heap.size) (ok := fun k_ => (True ∧ some k_ ≠ (.slice Ao46 t393.length co46 : Value).ownBlock)) (n := t413.length) (c := co66) ?_).2.2; exact (by (with_reducible repeat (first | apply Kd.R_alloc | apply Kd.R_drewN | apply Kd.R_drew)); exact (Kd.R_mono (Kd.R_far (p := ⟨gb419, 2, none⟩) (Kd.R_far (p := ⟨gb419, 1, none⟩) (Kd.R_far (p := ⟨gb419, 0, none⟩) (Kd.R_types HO415.out BK419.out (by decide)) (fun _ hk => hk.2) (.slice Ao61 t410.length co61)) (fun _ hk => hk.2) (.slice Ao66 t413.length co66)) (fun _ hk => hk.2) (.slice Ao67 t416.length co67)) (fun _ h_ => h_.1)))); (case side10 => exact (Kd.R_reads' HO415.out).2.1); (case side11 => refine (Kd.S_reads' (e := 45) (base := w.heap.size) (ok := fun k_ => ((some k_ ≠ (.slice Ao61 t410.length co61 : Value).ownBlock ∧ some k_ ≠ (.slice Ao45 t390.length co45 : Value).ownBlock) ∧ some k_ ≠ (.slice Ao47 t396.length co47 : Value).ownBlock)) (n := t416.length) (c := co67) ?_).2.2; exact (by (with_reducible repeat (first | apply Kd.S_alloc | apply Kd.S_drewN | apply Kd.S_drew)); exact (Kd.S_mono (Kd.S_far (p := ⟨gb419, 2, none⟩) (Kd.S_far (p := ⟨gb419, 1, none⟩) (Kd.S_far (p := ⟨gb419, 0, none⟩) (Kd.S_types HO418.out BK419.out (by decide)) (fun _ hk => hk.2) (.slice Ao61 t410.length co61)) (fun _ hk => hk.2) (.slice Ao66 t413.length co66)) (fun _ hk => hk.2) (.slice Ao67 t416.length co67)) (fun _ h_ => h_.1)))); (case side12 => exact (Kd.S_reads' HO418.out).2.1); rintro e w69 ⟨rfl, hb⟩; refine ⟨_, rfl, ?_⟩; replace HO383 := Aside0.mk (Kd.R_below (by (with_reducible repeat (first | apply Kd.R_alloc | apply Kd.R_drewN | apply Kd.R_drew)); exact (Kd.R_mono (Kd.R_far (p := ⟨gb419, 2, none⟩) (Kd.R_far (p := ⟨gb419, 1, none⟩) (Kd.R_far (p := ⟨gb419, 0, none⟩) (Kd.R_types HO383.out BK419.out (by decide)) (fun _ hk => hk.2) (.slice Ao61 t410.length co61)) (fun _ hk => hk.2) (.slice Ao66 t413.length co66)) (fun _ hk => hk.2) (.slice Ao67 t416.length co67)) (fun _ h_ => h_.1))) hb); replace HO386 := Aside0.mk (Kd.R_below (by (with_reducible repeat (first | apply Kd.R_alloc | apply Kd.R_drewN | apply Kd.R_drew)); exact (Kd.R_mono (Kd.R_far (p := ⟨gb419, 2, none⟩) (Kd.R_far (p := ⟨gb419, 1, none⟩) (Kd.R_far (p := ⟨gb419, 0, none⟩) (Kd.R_types HO386.out BK419.out (by decide)) (fun _ hk => hk.2) (.slice Ao61 t410.length co61)) (fun _ hk => hk.2) (.slice Ao66 t413.length co66)) (fun _ hk => hk.2) (.slice Ao67 t416.length co67)) (fun _ h_ => h_.1))) hb); replace HO389 := Aside0.mk (Kd.R_below (by (with_reducible repeat (first | apply Kd.R_alloc | apply Kd.R_drewN | apply Kd.R_drew)); exact (Kd.R_mono (Kd.R_far (p := ⟨gb419, 2, none⟩) (Kd.R_far (p := ⟨gb419, 1, none⟩) (Kd.R_far (p := ⟨gb419, 0, none⟩) (Kd.R_types HO389.out BK419.out (by decide)) (fun _ hk => hk.2) (.slice Ao61 t410.length co61)) (fun _ hk => hk.2) (.slice Ao66 t413.length co66)) (fun _ hk => hk.2) (.slice Ao67 t416.length co67)) (fun _ h_ => h_.1))) hb); replace HO392 := Aside0.mk (Kd.R_below (by (with_reducible repeat (first | apply Kd.R_alloc | apply Kd.R_drewN | apply Kd.R_drew)); exact (Kd.R_mono (Kd.R_far (p := ⟨gb419, 2, none⟩) (Kd.R_far (p := ⟨gb419, 1, none⟩) (Kd.R_far (p := ⟨gb419, 0, none⟩) (Kd.R_types HO392.out BK419.out (by decide)) (fun _ hk => hk.2) (.slice Ao61 t410.length co61)) (fun _ hk => hk.2) (.slice Ao66 t413.length co66)) (fun _ hk => hk.2) (.slice Ao67 t416.length co67)) (fun _ h_ => h_.1))) hb); replace HO395 := Aside0.mk (Kd.R_below (by (with_reducible repeat (first | apply Kd.R_alloc | apply Kd.R_drewN | apply Kd.R_drew)); exact (Kd.R_mono (Kd.R_far (p := ⟨gb419, 2, none⟩) (Kd.R_far (p := ⟨gb419, 1, none⟩) (Kd.R_far (p := ⟨gb419, 0, none⟩) (Kd.R_types HO395.out BK419.out (by decide)) (fun _ hk => hk.2) (.slice Ao61 t410.length co61)) (fun _ hk => hk.2) (.slice Ao66 t413.length co66)) (fun _ hk => hk.2) (.slice Ao67 t416.length co67)) (fun _ h_ => h_.1))) hb); replace HO398 := Aside0.mk (Kd.S_below (by (with_reducible repeat (first | apply Kd.S_alloc | apply Kd.S_drewN | apply Kd.S_drew)); exact (Kd.S_mono (Kd.S_far (p := ⟨gb419, 2, none⟩) (Kd.S_far (p := ⟨gb419, 1, none⟩) (Kd.S_far (p := ⟨gb419, 0, none⟩) (Kd.S_types HO398.out BK419.out (by decide)) (fun _ hk => hk.2) (.slice Ao61 t410.length co61)) (fun _ hk => hk.2) (.slice Ao66 t413.length co66)) (fun _ hk => hk.2) (.slice Ao67 t416.length co67)) (fun _ h_ => h_.1))) hb); replace HO402 := Aside0.mk (Kd.R_below (by (with_reducible repeat (first | apply Kd.R_alloc | apply Kd.R_drewN | apply Kd.R_drew)); exact (Kd.R_mono (Kd.R_far (p := ⟨gb419, 2, none⟩) (Kd.R_far (p := ⟨gb419, 1, none⟩) (Kd.R_far (p := ⟨gb419, 0, none⟩) (Kd.R_types HO402.out BK419.out (by decide)) (fun _ hk => hk.2) (.slice Ao61 t410.length co61)) (fun _ hk => hk.2) (.slice Ao66 t413.length co66)) (fun _ hk => hk.2) (.slice Ao67 t416.length co67)) (fun _ h_ => h_.1))) hb); replace HO405 := Aside0.mk (Kd.R_below (by (with_reducible repeat (first | apply Kd.R_alloc | apply Kd.R_drewN | apply Kd.R_drew)); exact (Kd.R_mono (Kd.R_far (p := ⟨gb419, 2, none⟩) (Kd.R_far (p := ⟨gb419, 1, none⟩) (Kd.R_far (p := ⟨gb419, 0, none⟩) (Kd.R_types HO405.out BK419.out (by decide)) (fun _ hk => hk.2) (.slice Ao61 t410.length co61)) (fun _ hk => hk.2) (.slice Ao66 t413.length co66)) (fun _ hk => hk.2) (.slice Ao67 t416.length co67)) (fun _ h_ => h_.1))) hb); replace HO408 := Aside0.mk (Kd.R_below (by (with_reducible repeat (first | apply Kd.R_alloc | apply Kd.R_drewN | apply Kd.R_drew)); exact (Kd.R_mono (Kd.R_far (p := ⟨gb419, 2, none⟩) (Kd.R_far (p := ⟨gb419, 1, none⟩) (Kd.R_far (p := ⟨gb419, 0, none⟩) (Kd.R_types HO408.out BK419.out (by decide)) (fun _ hk => hk.2) (.slice Ao61 t410.length co61)) (fun _ hk => hk.2) (.slice Ao66 t413.length co66)) (fun _ hk => hk.2) (.slice Ao67 t416.length co67)) (fun _ h_ => h_.1))) hb); replace HO412 := Aside0.mk (Kd.R_below (by (with_reducible repeat (first | apply Kd.R_alloc | apply Kd.R_drewN | apply Kd.R_drew)); exact (Kd.R_mono (Kd.R_far (p := ⟨gb419, 2, none⟩) (Kd.R_far (p := ⟨gb419, 1, none⟩) (Kd.R_far (p := ⟨gb419, 0, none⟩) (Kd.R_types HO412.out BK419.out (by decide)) (fun _ hk => hk.2) (.slice Ao61 t410.length co61)) (fun _ hk => hk.2) (.slice Ao66 t413.length co66)) (fun _ hk => hk.2) (.slice Ao67 t416.length co67)) (fun _ h_ => h_.1))) hb); replace HO415 := Aside0.mk (Kd.R_below (by (with_reducible repeat (first | apply Kd.R_alloc | apply Kd.R_drewN | apply Kd.R_drew)); exact (Kd.R_mono (Kd.R_far (p := ⟨gb419, 2, none⟩) (Kd.R_far (p := ⟨gb419, 1, none⟩) (Kd.R_far (p := ⟨gb419, 0, none⟩) (Kd.R_types HO415.out BK419.out (by decide)) (fun _ hk => hk.2) (.slice Ao61 t410.length co61)) (fun _ hk => hk.2) (.slice Ao66 t413.length co66)) (fun _ hk => hk.2) (.slice Ao67 t416.length co67)) (fun _ h_ => h_.1))) hb); replace HO418 := Aside0.mk (Kd.S_below (by (with_reducible repeat (first | apply Kd.S_alloc | apply Kd.S_drewN | apply Kd.S_drew)); exact (Kd.S_mono (Kd.S_far (p := ⟨gb419, 2, none⟩) (Kd.S_far (p := ⟨gb419, 1, none⟩) (Kd.S_far (p := ⟨gb419, 0, none⟩) (Kd.S_types HO418.out BK419.out (by decide)) (fun _ hk => hk.2) (.slice Ao61 t410.length co61)) (fun _ hk => hk.2) (.slice Ao66 t413.length co66)) (fun _ hk => hk.2) (.slice Ao67 t416.length co67)) (fun _ h_ => h_.1))) hb); replace BK377 := Aside0.mk (blk_below (g := gb377) (o := .cells #[.slice A0_0 l0_0.length c0_0, .slice A0_1 l0_1.length c0_1, .slice A0_2 l0_2.length c0_2] 25 (0, 0)) (bx BK377) hb); replace BK378 := Aside0.mk (blk_below (g := gb378) (o := .cells #[.slice A1_0 l1_0.length c1_0, .slice A1_1 l1_1.length c1_1, .slice A1_2 l1_2.length c1_2] 49 (0, 0)) (bx BK378) hb); replace BK409 := Aside0.mk (blk_below (g := gb409) (o := .cells #[.slice Ao52 t400.length co52, .slice Ao56 t403.length co56, .slice Ao57 t406.length co57] 30 (0, 0)) (bx BK409) hb); replace BK419 := Aside0.mk (blk_below (g := gb419) (o := .cells #[.slice Ao61 t410.length co61, .slice Ao66 t413.length co66, .slice Ao67 t416.length co67] 52 (0, 0)) (by (with_reducible repeat (first | refine blk_drewN ?_ _ | refine blk_drew ?_ | refine blk_alloc ?_ _)); refine blk_put (cs := #[.slice Ao61 t410.length co61, .slice Ao66 t413.length co66, .slice none 0 0]) ?_ 2 _ rfl; (with_reducible repeat (first | refine blk_drewN ?_ _ | refine blk_drew ?_ | refine blk_alloc ?_ _)); refine blk_put (cs := #[.slice Ao61 t410.length co61, .slice none 0 0, .slice none 0 0]) ?_ 1 _ rfl; (with_reducible repeat (first | refine blk_drewN ?_ _ | refine blk_drew ?_ | refine blk_alloc ?_ _)); refine blk_put (cs := #[.slice none 0 0, .slice none 0 0, .slice none 0 0]) ?_ 0 _ rfl; (with_reducible repeat (first | refine blk_drewN ?_ _ | refine blk_drew ?_ | refine blk_alloc ?_ _)); exact BK419.out) hb); replace HB := bs HB hb; (try clear hb); (try clear hb2); (try clear hk); (try clear hi)))
      have n0_ := Aside0.mk (Kd.R_drew HO383.out)
      have n1_ := Aside0.mk (Kd.R_drew HO386.out)
      have n2_ := Aside0.mk (Kd.R_drew HO389.out)
      have n3_ := Aside0.mk (Kd.R_drew HO392.out)
      have n4_ := Aside0.mk (Kd.R_drew HO395.out)
      have n5_ := Aside0.mk (Kd.S_drew HO398.out)
      have n6_ := Aside0.mk (Kd.R_drew HO402.out)
      have n7_ := Aside0.mk (Kd.R_drew HO405.out)
      have n8_ := Aside0.mk (Kd.R_drew HO408.out)
      have n9_ := Aside0.mk (Kd.R_drew HO412.out)
      have n10_ := Aside0.mk (Kd.R_drew HO415.out)
      have n11_ := Aside0.mk (Kd.S_drew HO418.out)
      have n12_ := Aside0.mk (blk_drew BK377.out)
      have n13_ := Aside0.mk (blk_drew BK378.out)
      have n14_ := Aside0.mk (blk_drew BK409.out)
      have n15_ := Aside0.mk (blk_drew BK419.out)
      have n16_ := Aside0.mk (below_drew1 HB.out)
      clear HO383
      clear HO386
      clear HO389
      clear HO392
      clear HO395
      clear HO398
      clear HO402
      clear HO405
      clear HO408
      clear HO412
      clear HO415
      clear HO418
      clear BK377
      clear BK378
      clear BK409
      clear BK419
      clear HB
      have HO383 := n0_
      have HO386 := n1_
      have HO389 := n2_
      have HO392 := n3_
      have HO395 := n4_
      have HO398 := n5_
      have HO402 := n6_
      have HO405 := n7_
      have HO408 := n8_
      have HO412 := n9_
      have HO415 := n10_
      have HO418 := n11_
      have BK377 := n12_
      have BK378 := n13_
      have BK409 := n14_
      have BK419 := n15_
      have HB := n16_
      clear n0_ n1_ n2_ n3_ n4_ n5_ n6_ n7_ n8_ n9_ n10_ n11_ n12_ n13_ n14_ n15_ n16_
      refine start_ (n := 5) (S := fun w' => w'.cell? ⟨gb409, 0, none⟩ = some (.slice Ao52 t400.length co52) ∧ w'.cell? ⟨gb409, 1, none⟩ = some (.slice Ao56 t403.length co56) ∧ w'.cell? ⟨gb409, 2, none⟩ = some (.slice Ao57 t406.length co57) ∧ w'.cell? ⟨gb377, 0, none⟩ = some (.slice A0_0 l0_0.length c0_0) ∧ w'.cell? ⟨gb377, 1, none⟩ = some (.slice A0_1 l0_1.length c0_1) ∧ w'.cell? ⟨gb377, 2, none⟩ = some (.slice A0_2 l0_2.length c0_2)) (ds := []) #[false, false, false, false, false] (by kernel_rfl) rfl rfl ⟨(blk_cell BK409.out 0).trans rfl, (blk_cell BK409.out 1).trans rfl, (blk_cell BK409.out 2).trans rfl, (blk_cell BK377.out 0).trans rfl, (blk_cell BK377.out 1).trans rfl, (blk_cell BK377.out 2).trans rfl⟩ (fun hHeld => ?_)
      generalize w69.drew = w70 at HO383 HO386 HO389 HO392 HO395 HO398 HO402 HO405 HO408 HO412 HO415 HO418 BK377 BK378 BK409 BK419 HB hHeld ⊢
      refine take_ (i := 0) (N := some 35) (v := ?_) (a' := ?_) #[true, false, false, false, false] rfl rfl (by kernel_rfl) (fun _ _ _ h => h) (Or.inl ⟨by rfl, ?_⟩) hHeld ?_ ?_
      rotate_left
      ·rintro w' ⟨s0, s1, s2, s3, s4, s5⟩
       go_simp
       with_reducible rfl
      rotate_left
      ·simp only [Act.put, List.setIfInBounds_toArray, List.set_cons_zero, List.set_cons_succ, i64_w, i32_w]
       rfl
      refine take_ (i := 1) (N := some 36) (v := ?_) (a' := ?_) #[true, true, false, false, false] rfl rfl (by kernel_rfl) (fun _ _ _ h => h) (Or.inl ⟨by rfl, ?_⟩) hHeld ?_ ?_
      rotate_left
      ·rintro w' ⟨s0, s1, s2, s3, s4, s5⟩
       go_simp
       with_reducible rfl
      rotate_left
      ·simp only [Act.put, List.setIfInBounds_toArray, List.set_cons_zero, List.set_cons_succ, i64_w, i32_w]
       rfl
      refine one_ (i := 2) (N := some 37) #[true, true, true, false, false] rfl rfl (by kernel_rfl) (by decide) (fun K hK => ?_)
      refine goes_ Tryd.func14 (by kernel_rfl) rfl #[.agg #[.slice A0_0 l0_0.length c0_0, .slice A0_1 l0_1.length c0_1, .slice A0_2 l0_2.length c0_2]] (by rfl) rfl rfl (by (try simp only [List.map_toArray, List.map_cons, List.map_nil]); first | done | rfl | (simp only [List.length_drop, List.length_take]; rfl)) ?_
      with_reducible refine (laws_toDecl.calls k _ _ l0_0 _ _ l0_1 _ _ l0_2 t421 t424 t427 _ ?side1 ?side2 ?side3 ?side4 ?side5 ?side6 A26.out).mono ?_
      (case side1 => repeat (first | exact (Kd.C_below HR0_0.out HB.out) | (with_reducible refine Kd.C_alloc ?_ _) | (with_reducible refine Kd.C_drewN ?_ _) | (with_reducible refine Kd.C_drew ?_)))
      (case side2 => exact HC0_0.out)
      (case side3 => repeat (first | exact (Kd.C_below HR0_1.out HB.out) | (with_reducible refine Kd.C_alloc ?_ _) | (with_reducible refine Kd.C_drewN ?_ _) | (with_reducible refine Kd.C_drew ?_)))
      (case side4 => exact HC0_1.out)
      (case side5 => repeat (first | exact (Kd.C_below HR0_2.out HB.out) | (with_reducible refine Kd.C_alloc ?_ _) | (with_reducible refine Kd.C_drewN ?_ _) | (with_reducible refine Kd.C_drew ?_)))
      (case side6 => exact HC0_2.out)
      rintro e w71 ⟨v422, v425, v428, rfl, ho0, ho1, ho2, hb⟩
      refine ⟨_, rfl, ?_⟩
      have n0_ := Aside0.mk (Kd.R_mono (Kd.R_told (Kd.R_told (Kd.R_old (by (with_reducible repeat (first | apply Kd.R_alloc | apply Kd.R_drewN | apply Kd.R_drew)); exact HO383.out) hb) (Kd.R_base ho0)) (Kd.R_base ho1)) (fun _ h_ => h_.1))
      have n1_ := Aside0.mk (Kd.R_mono (Kd.R_told (Kd.R_told (Kd.R_old (by (with_reducible repeat (first | apply Kd.R_alloc | apply Kd.R_drewN | apply Kd.R_drew)); exact HO386.out) hb) (Kd.R_base ho0)) (Kd.R_base ho1)) (fun _ h_ => h_.1))
      have n2_ := Aside0.mk (Kd.R_elder' (by (with_reducible repeat (first | apply Kd.R_alloc | apply Kd.R_drewN | apply Kd.R_drew)); exact HO389.out) (Kd.R_base ho2) hb)
      have n3_ := Aside0.mk (Kd.R_below (by (with_reducible repeat (first | apply Kd.R_alloc | apply Kd.R_drewN | apply Kd.R_drew)); exact HO392.out) hb)
      have n4_ := Aside0.mk (Kd.R_below (by (with_reducible repeat (first | apply Kd.R_alloc | apply Kd.R_drewN | apply Kd.R_drew)); exact HO395.out) hb)
      have n5_ := Aside0.mk (Kd.S_below (by (with_reducible repeat (first | apply Kd.S_alloc | apply Kd.S_drewN | apply Kd.S_drew)); exact HO398.out) hb)
      have n6_ := Aside0.mk (Kd.R_mono (Kd.R_told (Kd.R_told (Kd.R_old (by (with_reducible repeat (first | apply Kd.R_alloc | apply Kd.R_drewN | apply Kd.R_drew)); exact HO402.out) hb) (Kd.R_base ho0)) (Kd.R_base ho1)) (fun _ h_ => h_.1))
      have n7_ := Aside0.mk (Kd.R_mono (Kd.R_told (Kd.R_told (Kd.R_old (by (with_reducible repeat (first | apply Kd.R_alloc | apply Kd.R_drewN | apply Kd.R_drew)); exact HO405.out) hb) (Kd.R_base ho0)) (Kd.R_base ho1)) (fun _ h_ => h_.1))
      have n8_ := Aside0.mk (Kd.R_elder' (by (with_reducible repeat (first | apply Kd.R_alloc | apply Kd.R_drewN | apply Kd.R_drew)); exact HO408.out) (Kd.R_base ho2) hb)
      have n9_ := Aside0.mk (Kd.R_below (by (with_reducible repeat (first | apply Kd.R_alloc | apply Kd.R_drewN | apply Kd.R_drew)); exact HO412.out) hb)
      have n10_ := Aside0.mk (Kd.R_below (by (with_reducible repeat (first | apply Kd.R_alloc | apply Kd.R_drewN | apply Kd.R_drew)); exact HO415.out) hb)
      have n11_ := Aside0.mk (Kd.S_below (by (with_reducible repeat (first | apply Kd.S_alloc | apply Kd.S_drewN | apply Kd.S_drew)); exact HO418.out) hb)
      have n12_ := Aside0.mk (Kd.R_lower (Kd.R_new' (Kd.R_new' (Kd.R_new' (Kd.R_new' ho0 (Kd.R_lt (by (with_reducible repeat (first | apply Kd.R_alloc | apply Kd.R_drewN | apply Kd.R_drew)); exact HO383.out))) (Kd.R_lt (by (with_reducible repeat (first | apply Kd.R_alloc | apply Kd.R_drewN | apply Kd.R_drew)); exact HO386.out))) (Kd.R_lt (by (with_reducible repeat (first | apply Kd.R_alloc | apply Kd.R_drewN | apply Kd.R_drew)); exact HO402.out))) (Kd.R_lt (by (with_reducible repeat (first | apply Kd.R_alloc | apply Kd.R_drewN | apply Kd.R_drew)); exact HO405.out))) (below_size (bw HB)))
      have n13_ := Aside0.mk (Kd.R_lower (Kd.R_new' (Kd.R_new' (Kd.R_new' (Kd.R_new' ho1 (Kd.R_lt (by (with_reducible repeat (first | apply Kd.R_alloc | apply Kd.R_drewN | apply Kd.R_drew)); exact HO383.out))) (Kd.R_lt (by (with_reducible repeat (first | apply Kd.R_alloc | apply Kd.R_drewN | apply Kd.R_drew)); exact HO386.out))) (Kd.R_lt (by (with_reducible repeat (first | apply Kd.R_alloc | apply Kd.R_drewN | apply Kd.R_drew)); exact HO402.out))) (Kd.R_lt (by (with_reducible repeat (first | apply Kd.R_alloc | apply Kd.R_drewN | apply Kd.R_drew)); exact HO405.out))) (below_size (bw HB)))
      have n14_ := Aside0.mk (Kd.R_lower (Kd.R_new' (Kd.R_new' ho2 (Kd.R_lt (by (with_reducible repeat (first | apply Kd.R_alloc | apply Kd.R_drewN | apply Kd.R_drew)); exact HO389.out))) (Kd.R_lt (by (with_reducible repeat (first | apply Kd.R_alloc | apply Kd.R_drewN | apply Kd.R_drew)); exact HO408.out))) (below_size (bw HB)))
      have n15_ := bb BK377 hb
      have n16_ := bb BK378 hb
      have n17_ := bb BK409 hb
      have n18_ := bb BK419 hb
      have n19_ := bs HB hb
      clear HO383
      clear HO386
      clear HO389
      clear HO392
      clear HO395
      clear HO398
      clear HO402
      clear HO405
      clear HO408
      clear HO412
      clear HO415
      clear HO418
      clear BK377
      clear BK378
      clear BK409
      clear BK419
      clear HB
      have HO383 := n0_
      have HO386 := n1_
      have HO389 := n2_
      have HO392 := n3_
      have HO395 := n4_
      have HO398 := n5_
      have HO402 := n6_
      have HO405 := n7_
      have HO408 := n8_
      have HO412 := n9_
      have HO415 := n10_
      have HO418 := n11_
      have HO423 := n12_
      have HO426 := n13_
      have HO429 := n14_
      have BK377 := n15_
      have BK378 := n16_
      have BK409 := n17_
      have BK419 := n18_
      have HB := n19_
      clear n0_ n1_ n2_ n3_ n4_ n5_ n6_ n7_ n8_ n9_ n10_ n11_ n12_ n13_ n14_ n15_ n16_ n17_ n18_ n19_
      (try clear hb)
      (try clear hb2)
      (try clear hk)
      (try clear hi)
      (try clear ho0)
      (try clear ho1)
      (try clear ho2)
      obtain ⟨Ao72, co72, eo72⟩ := Kd.R_slice HO423.out
      (first | subst eo72 | (injection eo72 with f1_ f2_ f3_; have f4_ := f1_.symm; have f5_ := f3_.symm; clear f1_ f2_ f3_; subst f4_; subst f5_))
      obtain ⟨Ao73, co73, eo73⟩ := Kd.R_slice HO426.out
      (first | subst eo73 | (injection eo73 with f1_ f2_ f3_; have f4_ := f1_.symm; have f5_ := f3_.symm; clear f1_ f2_ f3_; subst f4_; subst f5_))
      obtain ⟨Ao74, co74, eo74⟩ := Kd.R_slice HO429.out
      (first | subst eo74 | (injection eo74 with f1_ f2_ f3_; have f4_ := f1_.symm; have f5_ := f3_.symm; clear f1_ f2_ f3_; subst f4_; subst f5_))
      refine hK.out _ _ ⟨(blk_cell BK409.out 0).trans rfl, (blk_cell BK409.out 1).trans rfl, (blk_cell BK409.out 2).trans rfl, (blk_cell BK377.out 0).trans rfl, (blk_cell BK377.out 1).trans rfl, (blk_cell BK377.out 2).trans rfl⟩ (fun hHeld => ?_)
      clear hK K
      refine norm_ (a' := ?_) ?_ ?_
      rotate_left
      ·show Act.put _ (some 37) _ = _
       simp only [Act.put, List.setIfInBounds_toArray, List.set_cons_zero, List.set_cons_succ, i64_w, i32_w]
       rfl
      refine one_ (i := 3) (N := some 38) #[true, true, true, true, false] rfl rfl (by kernel_rfl) (by decide) (fun K hK => ?_)
      refine goes_ Tryd.func16 (by kernel_rfl) rfl #[.agg #[.slice Ao52 t400.length co52, .slice Ao56 t403.length co56, .slice Ao57 t406.length co57], .agg #[.slice Ao72 t421.length co72, .slice Ao73 t424.length co73, .slice Ao74 t427.length co74]] (by rfl) rfl rfl (by (try simp only [List.map_toArray, List.map_cons, List.map_nil]); first | done | rfl | (simp only [List.length_drop, List.length_take]; rfl)) ?_
      with_reducible refine (laws_eqDecl.calls k _ _ t400 _ _ t403 _ _ t406 _ _ t421 _ _ t424 _ _ t427 true _ ?side1 ?side2 ?side3 ?side4 ?side5 ?side6 ?side7 ?side8 ?side9 ?side10 ?side11 ?side12 A27.out).mono ?_
      (case side1 => repeat (first | exact (Kd.R_reads' HO402.out).2.2 | (with_reducible refine Kd.C_alloc ?_ _) | (with_reducible refine Kd.C_drewN ?_ _) | (with_reducible refine Kd.C_drew ?_)))
      (case side2 => exact (Kd.R_reads' HO402.out).2.1)
      (case side3 => repeat (first | exact (Kd.R_reads' HO405.out).2.2 | (with_reducible refine Kd.C_alloc ?_ _) | (with_reducible refine Kd.C_drewN ?_ _) | (with_reducible refine Kd.C_drew ?_)))
      (case side4 => exact (Kd.R_reads' HO405.out).2.1)
      (case side5 => repeat (first | exact (Kd.R_reads' HO408.out).2.2 | (with_reducible refine Kd.C_alloc ?_ _) | (with_reducible refine Kd.C_drewN ?_ _) | (with_reducible refine Kd.C_drew ?_)))
      (case side6 => exact (Kd.R_reads' HO408.out).2.1)
      (case side7 => repeat (first | exact (Kd.R_reads' HO423.out).2.2 | (with_reducible refine Kd.C_alloc ?_ _) | (with_reducible refine Kd.C_drewN ?_ _) | (with_reducible refine Kd.C_drew ?_)))
      (case side8 => exact (Kd.R_reads' HO423.out).2.1)
      (case side9 => repeat (first | exact (Kd.R_reads' HO426.out).2.2 | (with_reducible refine Kd.C_alloc ?_ _) | (with_reducible refine Kd.C_drewN ?_ _) | (with_reducible refine Kd.C_drew ?_)))
      (case side10 => exact (Kd.R_reads' HO426.out).2.1)
      (case side11 => repeat (first | exact (Kd.R_reads' HO429.out).2.2 | (with_reducible refine Kd.C_alloc ?_ _) | (with_reducible refine Kd.C_drewN ?_ _) | (with_reducible refine Kd.C_drew ?_)))
      (case side12 => exact (Kd.R_reads' HO429.out).2.1)
      rintro e w75 ⟨rfl, hb⟩
      refine ⟨_, rfl, ?_⟩
      have n0_ := Aside0.mk (Kd.R_below (by (with_reducible repeat (first | apply Kd.R_alloc | apply Kd.R_drewN | apply Kd.R_drew)); exact HO383.out) hb)
      have n1_ := Aside0.mk (Kd.R_below (by (with_reducible repeat (first | apply Kd.R_alloc | apply Kd.R_drewN | apply Kd.R_drew)); exact HO386.out) hb)
      have n2_ := Aside0.mk (Kd.R_below (by (with_reducible repeat (first | apply Kd.R_alloc | apply Kd.R_drewN | apply Kd.R_drew)); exact HO389.out) hb)
      have n3_ := Aside0.mk (Kd.R_below (by (with_reducible repeat (first | apply Kd.R_alloc | apply Kd.R_drewN | apply Kd.R_drew)); exact HO392.out) hb)
      have n4_ := Aside0.mk (Kd.R_below (by (with_reducible repeat (first | apply Kd.R_alloc | apply Kd.R_drewN | apply Kd.R_drew)); exact HO395.out) hb)
      have n5_ := Aside0.mk (Kd.S_below (by (with_reducible repeat (first | apply Kd.S_alloc | apply Kd.S_drewN | apply Kd.S_drew)); exact HO398.out) hb)
      have n6_ := Aside0.mk (Kd.R_below (by (with_reducible repeat (first | apply Kd.R_alloc | apply Kd.R_drewN | apply Kd.R_drew)); exact HO402.out) hb)
      have n7_ := Aside0.mk (Kd.R_below (by (with_reducible repeat (first | apply Kd.R_alloc | apply Kd.R_drewN | apply Kd.R_drew)); exact HO405.out) hb)
      have n8_ := Aside0.mk (Kd.R_below (by (with_reducible repeat (first | apply Kd.R_alloc | apply Kd.R_drewN | apply Kd.R_drew)); exact HO408.out) hb)
      have n9_ := Aside0.mk (Kd.R_below (by (with_reducible repeat (first | apply Kd.R_alloc | apply Kd.R_drewN | apply Kd.R_drew)); exact HO412.out) hb)
      have n10_ := Aside0.mk (Kd.R_below (by (with_reducible repeat (first | apply Kd.R_alloc | apply Kd.R_drewN | apply Kd.R_drew)); exact HO415.out) hb)
      have n11_ := Aside0.mk (Kd.S_below (by (with_reducible repeat (first | apply Kd.S_alloc | apply Kd.S_drewN | apply Kd.S_drew)); exact HO418.out) hb)
      have n12_ := Aside0.mk (Kd.R_below (by (with_reducible repeat (first | apply Kd.R_alloc | apply Kd.R_drewN | apply Kd.R_drew)); exact HO423.out) hb)
      have n13_ := Aside0.mk (Kd.R_below (by (with_reducible repeat (first | apply Kd.R_alloc | apply Kd.R_drewN | apply Kd.R_drew)); exact HO426.out) hb)
      have n14_ := Aside0.mk (Kd.R_below (by (with_reducible repeat (first | apply Kd.R_alloc | apply Kd.R_drewN | apply Kd.R_drew)); exact HO429.out) hb)
      have n15_ := bb BK377 hb
      have n16_ := bb BK378 hb
      have n17_ := bb BK409 hb
      have n18_ := bb BK419 hb
      have n19_ := bs HB hb
      clear HO383
      clear HO386
      clear HO389
      clear HO392
      clear HO395
      clear HO398
      clear HO402
      clear HO405
      clear HO408
      clear HO412
      clear HO415
      clear HO418
      clear HO423
      clear HO426
      clear HO429
      clear BK377
      clear BK378
      clear BK409
      clear BK419
      clear HB
      have HO383 := n0_
      have HO386 := n1_
      have HO389 := n2_
      have HO392 := n3_
      have HO395 := n4_
      have HO398 := n5_
      have HO402 := n6_
      have HO405 := n7_
      have HO408 := n8_
      have HO412 := n9_
      have HO415 := n10_
      have HO418 := n11_
      have HO423 := n12_
      have HO426 := n13_
      have HO429 := n14_
      have BK377 := n15_
      have BK378 := n16_
      have BK409 := n17_
      have BK419 := n18_
      have HB := n19_
      clear n0_ n1_ n2_ n3_ n4_ n5_ n6_ n7_ n8_ n9_ n10_ n11_ n12_ n13_ n14_ n15_ n16_ n17_ n18_ n19_
      (try clear hb)
      (try clear hb2)
      (try clear hk)
      (try clear hi)
      refine hK.out _ _ ⟨(blk_cell BK409.out 0).trans rfl, (blk_cell BK409.out 1).trans rfl, (blk_cell BK409.out 2).trans rfl, (blk_cell BK377.out 0).trans rfl, (blk_cell BK377.out 1).trans rfl, (blk_cell BK377.out 2).trans rfl⟩ (fun hHeld => ?_)
      clear hK K
      refine norm_ (a' := ?_) ?_ ?_
      rotate_left
      ·show Act.put _ (some 38) _ = _
       simp only [Act.put, List.setIfInBounds_toArray, List.set_cons_zero, List.set_cons_succ, i64_w, i32_w]
       rfl
      refine pure_ (i := 4) (N := some 39) (v := ?_) (a' := ?_) #[true, true, true, true, true] rfl rfl (by kernel_rfl) (fun _ _ _ h => h) (Or.inl ⟨by rfl, ?_⟩) ?_ ?_
      rotate_left
      ·intro w'
       go_simp
       with_reducible rfl
      rotate_left
      ·simp only [Act.put, List.setIfInBounds_toArray, List.set_cons_zero, List.set_cons_succ, i64_w, i32_w]
       rfl
      refine done_ (by kernel_rfl) ?_
      try go_wp2
      have n0_ := Aside0.mk (Kd.R_drew HO383.out)
      have n1_ := Aside0.mk (Kd.R_drew HO386.out)
      have n2_ := Aside0.mk (Kd.R_drew HO389.out)
      have n3_ := Aside0.mk (Kd.R_drew HO392.out)
      have n4_ := Aside0.mk (Kd.R_drew HO395.out)
      have n5_ := Aside0.mk (Kd.S_drew HO398.out)
      have n6_ := Aside0.mk (Kd.R_drew HO402.out)
      have n7_ := Aside0.mk (Kd.R_drew HO405.out)
      have n8_ := Aside0.mk (Kd.R_drew HO408.out)
      have n9_ := Aside0.mk (Kd.R_drew HO412.out)
      have n10_ := Aside0.mk (Kd.R_drew HO415.out)
      have n11_ := Aside0.mk (Kd.S_drew HO418.out)
      have n12_ := Aside0.mk (Kd.R_drew HO423.out)
      have n13_ := Aside0.mk (Kd.R_drew HO426.out)
      have n14_ := Aside0.mk (Kd.R_drew HO429.out)
      have n15_ := Aside0.mk (blk_drew BK377.out)
      have n16_ := Aside0.mk (blk_drew BK378.out)
      have n17_ := Aside0.mk (blk_drew BK409.out)
      have n18_ := Aside0.mk (blk_drew BK419.out)
      have n19_ := Aside0.mk (below_drew1 HB.out)
      clear HO383
      clear HO386
      clear HO389
      clear HO392
      clear HO395
      clear HO398
      clear HO402
      clear HO405
      clear HO408
      clear HO412
      clear HO415
      clear HO418
      clear HO423
      clear HO426
      clear HO429
      clear BK377
      clear BK378
      clear BK409
      clear BK419
      clear HB
      have HO383 := n0_
      have HO386 := n1_
      have HO389 := n2_
      have HO392 := n3_
      have HO395 := n4_
      have HO398 := n5_
      have HO402 := n6_
      have HO405 := n7_
      have HO408 := n8_
      have HO412 := n9_
      have HO415 := n10_
      have HO418 := n11_
      have HO423 := n12_
      have HO426 := n13_
      have HO429 := n14_
      have BK377 := n15_
      have BK378 := n16_
      have BK409 := n17_
      have BK419 := n18_
      have HB := n19_
      clear n0_ n1_ n2_ n3_ n4_ n5_ n6_ n7_ n8_ n9_ n10_ n11_ n12_ n13_ n14_ n15_ n16_ n17_ n18_ n19_
      refine start_ (n := 5) (S := fun w' => w'.cell? ⟨gb419, 0, none⟩ = some (.slice Ao61 t410.length co61) ∧ w'.cell? ⟨gb419, 1, none⟩ = some (.slice Ao66 t413.length co66) ∧ w'.cell? ⟨gb419, 2, none⟩ = some (.slice Ao67 t416.length co67) ∧ w'.cell? ⟨gb378, 0, none⟩ = some (.slice A1_0 l1_0.length c1_0) ∧ w'.cell? ⟨gb378, 1, none⟩ = some (.slice A1_1 l1_1.length c1_1) ∧ w'.cell? ⟨gb378, 2, none⟩ = some (.slice A1_2 l1_2.length c1_2)) (ds := []) #[false, false, false, false, false] (by kernel_rfl) rfl rfl ⟨(blk_cell BK419.out 0).trans rfl, (blk_cell BK419.out 1).trans rfl, (blk_cell BK419.out 2).trans rfl, (blk_cell BK378.out 0).trans rfl, (blk_cell BK378.out 1).trans rfl, (blk_cell BK378.out 2).trans rfl⟩ (fun hHeld => ?_)
      generalize w75.drew = w76 at HO383 HO386 HO389 HO392 HO395 HO398 HO402 HO405 HO408 HO412 HO415 HO418 HO423 HO426 HO429 BK377 BK378 BK409 BK419 HB hHeld ⊢
      refine take_ (i := 0) (N := some 40) (v := ?_) (a' := ?_) #[true, false, false, false, false] rfl rfl (by kernel_rfl) (fun _ _ _ h => h) (Or.inl ⟨by rfl, ?_⟩) hHeld ?_ ?_
      rotate_left
      ·rintro w' ⟨s0, s1, s2, s3, s4, s5⟩
       go_simp
       with_reducible rfl
      rotate_left
      ·simp only [Act.put, List.setIfInBounds_toArray, List.set_cons_zero, List.set_cons_succ, i64_w, i32_w]
       rfl
      refine take_ (i := 1) (N := some 41) (v := ?_) (a' := ?_) #[true, true, false, false, false] rfl rfl (by kernel_rfl) (fun _ _ _ h => h) (Or.inl ⟨by rfl, ?_⟩) hHeld ?_ ?_
      rotate_left
      ·rintro w' ⟨s0, s1, s2, s3, s4, s5⟩
       go_simp
       with_reducible rfl
      rotate_left
      ·simp only [Act.put, List.setIfInBounds_toArray, List.set_cons_zero, List.set_cons_succ, i64_w, i32_w]
       rfl
      refine one_ (i := 2) (N := some 42) #[true, true, true, false, false] rfl rfl (by kernel_rfl) (by decide) (fun K hK => ?_)
      refine goes_ Tryd.func24 (by kernel_rfl) rfl #[.agg #[.slice A1_0 l1_0.length c1_0, .slice A1_1 l1_1.length c1_1, .slice A1_2 l1_2.length c1_2]] (by rfl) rfl rfl (by (try simp only [List.map_toArray, List.map_cons, List.map_nil]); first | done | rfl | (simp only [List.length_drop, List.length_take]; rfl)) ?_
      with_reducible refine (laws_toStore.calls k _ _ l1_0 _ _ l1_1 _ _ l1_2 t431 t434 t437 _ ?side1 ?side2 ?side3 ?side4 ?side5 ?side6 A29.out).mono ?_
      (case side1 => repeat (first | exact (Kd.C_below HR1_0.out HB.out) | (with_reducible refine Kd.C_alloc ?_ _) | (with_reducible refine Kd.C_drewN ?_ _) | (with_reducible refine Kd.C_drew ?_)))
      (case side2 => exact HC1_0.out)
      (case side3 => repeat (first | exact (Kd.C_below HR1_1.out HB.out) | (with_reducible refine Kd.C_alloc ?_ _) | (with_reducible refine Kd.C_drewN ?_ _) | (with_reducible refine Kd.C_drew ?_)))
      (case side4 => exact HC1_1.out)
      (case side5 => repeat (first | exact (Kd.C_below HR1_2.out HB.out) | (with_reducible refine Kd.C_alloc ?_ _) | (with_reducible refine Kd.C_drewN ?_ _) | (with_reducible refine Kd.C_drew ?_)))
      (case side6 => exact HC1_2.out)
      rintro e w77 ⟨v432, v435, v438, rfl, ho0, ho1, ho2, hb⟩
      refine ⟨_, rfl, ?_⟩
      have n0_ := Aside0.mk (Kd.R_below (by (with_reducible repeat (first | apply Kd.R_alloc | apply Kd.R_drewN | apply Kd.R_drew)); exact HO383.out) hb)
      have n1_ := Aside0.mk (Kd.R_below (by (with_reducible repeat (first | apply Kd.R_alloc | apply Kd.R_drewN | apply Kd.R_drew)); exact HO386.out) hb)
      have n2_ := Aside0.mk (Kd.R_below (by (with_reducible repeat (first | apply Kd.R_alloc | apply Kd.R_drewN | apply Kd.R_drew)); exact HO389.out) hb)
      have n3_ := Aside0.mk (Kd.R_elder' (by (with_reducible repeat (first | apply Kd.R_alloc | apply Kd.R_drewN | apply Kd.R_drew)); exact HO392.out) (Kd.R_base ho0) hb)
      have n4_ := Aside0.mk (Kd.R_elder' (by (with_reducible repeat (first | apply Kd.R_alloc | apply Kd.R_drewN | apply Kd.R_drew)); exact HO395.out) (Kd.R_base ho1) hb)
      have n5_ := Aside0.mk (Kd.S_mono (Kd.S_told (Kd.S_told (Kd.S_old (by (with_reducible repeat (first | apply Kd.S_alloc | apply Kd.S_drewN | apply Kd.S_drew)); exact HO398.out) hb) (Kd.R_base ho0)) (Kd.S_base ho2)) (fun _ h_ => h_.1))
      have n6_ := Aside0.mk (Kd.R_below (by (with_reducible repeat (first | apply Kd.R_alloc | apply Kd.R_drewN | apply Kd.R_drew)); exact HO402.out) hb)
      have n7_ := Aside0.mk (Kd.R_below (by (with_reducible repeat (first | apply Kd.R_alloc | apply Kd.R_drewN | apply Kd.R_drew)); exact HO405.out) hb)
      have n8_ := Aside0.mk (Kd.R_below (by (with_reducible repeat (first | apply Kd.R_alloc | apply Kd.R_drewN | apply Kd.R_drew)); exact HO408.out) hb)
      have n9_ := Aside0.mk (Kd.R_elder' (by (with_reducible repeat (first | apply Kd.R_alloc | apply Kd.R_drewN | apply Kd.R_drew)); exact HO412.out) (Kd.R_base ho0) hb)
      have n10_ := Aside0.mk (Kd.R_elder' (by (with_reducible repeat (first | apply Kd.R_alloc | apply Kd.R_drewN | apply Kd.R_drew)); exact HO415.out) (Kd.R_base ho1) hb)
      have n11_ := Aside0.mk (Kd.S_mono (Kd.S_told (Kd.S_told (Kd.S_old (by (with_reducible repeat (first | apply Kd.S_alloc | apply Kd.S_drewN | apply Kd.S_drew)); exact HO418.out) hb) (Kd.R_base ho0)) (Kd.S_base ho2)) (fun _ h_ => h_.1))
      have n12_ := Aside0.mk (Kd.R_below (by (with_reducible repeat (first | apply Kd.R_alloc | apply Kd.R_drewN | apply Kd.R_drew)); exact HO423.out) hb)
      have n13_ := Aside0.mk (Kd.R_below (by (with_reducible repeat (first | apply Kd.R_alloc | apply Kd.R_drewN | apply Kd.R_drew)); exact HO426.out) hb)
      have n14_ := Aside0.mk (Kd.R_below (by (with_reducible repeat (first | apply Kd.R_alloc | apply Kd.R_drewN | apply Kd.R_drew)); exact HO429.out) hb)
      have n15_ := Aside0.mk (Kd.R_lower (Kd.R_new' (Kd.R_new' ho0 (Kd.R_lt (by (with_reducible repeat (first | apply Kd.R_alloc | apply Kd.R_drewN | apply Kd.R_drew)); exact HO392.out))) (Kd.R_lt (by (with_reducible repeat (first | apply Kd.R_alloc | apply Kd.R_drewN | apply Kd.R_drew)); exact HO412.out))) (below_size (bw HB)))
      have n16_ := Aside0.mk (Kd.R_lower (Kd.R_new' (Kd.R_new' ho1 (Kd.R_lt (by (with_reducible repeat (first | apply Kd.R_alloc | apply Kd.R_drewN | apply Kd.R_drew)); exact HO395.out))) (Kd.R_lt (by (with_reducible repeat (first | apply Kd.R_alloc | apply Kd.R_drewN | apply Kd.R_drew)); exact HO415.out))) (below_size (bw HB)))
      have n17_ := Aside0.mk (Kd.S_lower (Kd.S_new' (Kd.S_new' (Kd.S_new' (Kd.S_new' ho2 (Kd.R_lt (by (with_reducible repeat (first | apply Kd.R_alloc | apply Kd.R_drewN | apply Kd.R_drew)); exact HO392.out))) (Kd.S_lt (by (with_reducible repeat (first | apply Kd.S_alloc | apply Kd.S_drewN | apply Kd.S_drew)); exact HO398.out))) (Kd.R_lt (by (with_reducible repeat (first | apply Kd.R_alloc | apply Kd.R_drewN | apply Kd.R_drew)); exact HO412.out))) (Kd.S_lt (by (with_reducible repeat (first | apply Kd.S_alloc | apply Kd.S_drewN | apply Kd.S_drew)); exact HO418.out))) (below_size (bw HB)))
      have n18_ := bb BK377 hb
      have n19_ := bb BK378 hb
      have n20_ := bb BK409 hb
      have n21_ := bb BK419 hb
      have n22_ := bs HB hb
      clear HO383
      clear HO386
      clear HO389
      clear HO392
      clear HO395
      clear HO398
      clear HO402
      clear HO405
      clear HO408
      clear HO412
      clear HO415
      clear HO418
      clear HO423
      clear HO426
      clear HO429
      clear BK377
      clear BK378
      clear BK409
      clear BK419
      clear HB
      have HO383 := n0_
      have HO386 := n1_
      have HO389 := n2_
      have HO392 := n3_
      have HO395 := n4_
      have HO398 := n5_
      have HO402 := n6_
      have HO405 := n7_
      have HO408 := n8_
      have HO412 := n9_
      have HO415 := n10_
      have HO418 := n11_
      have HO423 := n12_
      have HO426 := n13_
      have HO429 := n14_
      have HO433 := n15_
      have HO436 := n16_
      have HO439 := n17_
      have BK377 := n18_
      have BK378 := n19_
      have BK409 := n20_
      have BK419 := n21_
      have HB := n22_
      clear n0_ n1_ n2_ n3_ n4_ n5_ n6_ n7_ n8_ n9_ n10_ n11_ n12_ n13_ n14_ n15_ n16_ n17_ n18_ n19_ n20_ n21_ n22_
      (try clear hb)
      (try clear hb2)
      (try clear hk)
      (try clear hi)
      (try clear ho0)
      (try clear ho1)
      (try clear ho2)
      obtain ⟨Ao78, co78, eo78⟩ := Kd.R_slice HO433.out
      (first | subst eo78 | (injection eo78 with f1_ f2_ f3_; have f4_ := f1_.symm; have f5_ := f3_.symm; clear f1_ f2_ f3_; subst f4_; subst f5_))
      obtain ⟨Ao79, co79, eo79⟩ := Kd.R_slice HO436.out
      (first | subst eo79 | (injection eo79 with f1_ f2_ f3_; have f4_ := f1_.symm; have f5_ := f3_.symm; clear f1_ f2_ f3_; subst f4_; subst f5_))
      obtain ⟨Ao80, co80, eo80⟩ := Kd.S_slice HO439.out
      (first | subst eo80 | (injection eo80 with f1_ f2_ f3_; have f4_ := f1_.symm; have f5_ := f3_.symm; clear f1_ f2_ f3_; subst f4_; subst f5_))
      refine hK.out _ _ ⟨(blk_cell BK419.out 0).trans rfl, (blk_cell BK419.out 1).trans rfl, (blk_cell BK419.out 2).trans rfl, (blk_cell BK378.out 0).trans rfl, (blk_cell BK378.out 1).trans rfl, (blk_cell BK378.out 2).trans rfl⟩ (fun hHeld => ?_)
      clear hK K
      refine norm_ (a' := ?_) ?_ ?_
      rotate_left
      ·show Act.put _ (some 42) _ = _
       simp only [Act.put, List.setIfInBounds_toArray, List.set_cons_zero, List.set_cons_succ, i64_w, i32_w]
       rfl
      refine one_ (i := 3) (N := some 43) #[true, true, true, true, false] rfl rfl (by kernel_rfl) (by decide) (fun K hK => ?_)
      refine goes_ Tryd.func26 (by kernel_rfl) rfl #[.agg #[.slice Ao61 t410.length co61, .slice Ao66 t413.length co66, .slice Ao67 t416.length co67], .agg #[.slice Ao78 t431.length co78, .slice Ao79 t434.length co79, .slice Ao80 t437.length co80]] (by rfl) rfl rfl (by (try simp only [List.map_toArray, List.map_cons, List.map_nil]); first | done | rfl | (simp only [List.length_drop, List.length_take]; rfl)) ?_
      with_reducible refine (laws_eqStore.calls k _ _ t410 _ _ t413 _ _ t416 _ _ t431 _ _ t434 _ _ t437 true _ ?side1 ?side2 ?side3 ?side4 ?side5 ?side6 ?side7 ?side8 ?side9 ?side10 ?side11 ?side12 A30.out).mono ?_
      (case side1 => repeat (first | exact (Kd.R_reads' HO412.out).2.2 | (with_reducible refine Kd.C_alloc ?_ _) | (with_reducible refine Kd.C_drewN ?_ _) | (with_reducible refine Kd.C_drew ?_)))
      (case side2 => exact (Kd.R_reads' HO412.out).2.1)
      (case side3 => repeat (first | exact (Kd.R_reads' HO415.out).2.2 | (with_reducible refine Kd.C_alloc ?_ _) | (with_reducible refine Kd.C_drewN ?_ _) | (with_reducible refine Kd.C_drew ?_)))
      (case side4 => exact (Kd.R_reads' HO415.out).2.1)
      (case side5 => repeat (first | exact (Kd.S_reads' HO418.out).2.2 | (with_reducible refine Kd.C_alloc ?_ _) | (with_reducible refine Kd.C_drewN ?_ _) | (with_reducible refine Kd.C_drew ?_)))
      (case side6 => exact (Kd.S_reads' HO418.out).2.1)
      (case side7 => repeat (first | exact (Kd.R_reads' HO433.out).2.2 | (with_reducible refine Kd.C_alloc ?_ _) | (with_reducible refine Kd.C_drewN ?_ _) | (with_reducible refine Kd.C_drew ?_)))
      (case side8 => exact (Kd.R_reads' HO433.out).2.1)
      (case side9 => repeat (first | exact (Kd.R_reads' HO436.out).2.2 | (with_reducible refine Kd.C_alloc ?_ _) | (with_reducible refine Kd.C_drewN ?_ _) | (with_reducible refine Kd.C_drew ?_)))
      (case side10 => exact (Kd.R_reads' HO436.out).2.1)
      (case side11 => repeat (first | exact (Kd.S_reads' HO439.out).2.2 | (with_reducible refine Kd.C_alloc ?_ _) | (with_reducible refine Kd.C_drewN ?_ _) | (with_reducible refine Kd.C_drew ?_)))
      (case side12 => exact (Kd.S_reads' HO439.out).2.1)
      rintro e w81 ⟨rfl, hb⟩
      refine ⟨_, rfl, ?_⟩
      have n0_ := Aside0.mk (Kd.R_below (by (with_reducible repeat (first | apply Kd.R_alloc | apply Kd.R_drewN | apply Kd.R_drew)); exact HO383.out) hb)
      have n1_ := Aside0.mk (Kd.R_below (by (with_reducible repeat (first | apply Kd.R_alloc | apply Kd.R_drewN | apply Kd.R_drew)); exact HO386.out) hb)
      have n2_ := Aside0.mk (Kd.R_below (by (with_reducible repeat (first | apply Kd.R_alloc | apply Kd.R_drewN | apply Kd.R_drew)); exact HO389.out) hb)
      have n3_ := Aside0.mk (Kd.R_below (by (with_reducible repeat (first | apply Kd.R_alloc | apply Kd.R_drewN | apply Kd.R_drew)); exact HO392.out) hb)
      have n4_ := Aside0.mk (Kd.R_below (by (with_reducible repeat (first | apply Kd.R_alloc | apply Kd.R_drewN | apply Kd.R_drew)); exact HO395.out) hb)
      have n5_ := Aside0.mk (Kd.S_below (by (with_reducible repeat (first | apply Kd.S_alloc | apply Kd.S_drewN | apply Kd.S_drew)); exact HO398.out) hb)
      have n6_ := Aside0.mk (Kd.R_below (by (with_reducible repeat (first | apply Kd.R_alloc | apply Kd.R_drewN | apply Kd.R_drew)); exact HO402.out) hb)
      have n7_ := Aside0.mk (Kd.R_below (by (with_reducible repeat (first | apply Kd.R_alloc | apply Kd.R_drewN | apply Kd.R_drew)); exact HO405.out) hb)
      have n8_ := Aside0.mk (Kd.R_below (by (with_reducible repeat (first | apply Kd.R_alloc | apply Kd.R_drewN | apply Kd.R_drew)); exact HO408.out) hb)
      have n9_ := Aside0.mk (Kd.R_below (by (with_reducible repeat (first | apply Kd.R_alloc | apply Kd.R_drewN | apply Kd.R_drew)); exact HO412.out) hb)
      have n10_ := Aside0.mk (Kd.R_below (by (with_reducible repeat (first | apply Kd.R_alloc | apply Kd.R_drewN | apply Kd.R_drew)); exact HO415.out) hb)
      have n11_ := Aside0.mk (Kd.S_below (by (with_reducible repeat (first | apply Kd.S_alloc | apply Kd.S_drewN | apply Kd.S_drew)); exact HO418.out) hb)
      have n12_ := Aside0.mk (Kd.R_below (by (with_reducible repeat (first | apply Kd.R_alloc | apply Kd.R_drewN | apply Kd.R_drew)); exact HO423.out) hb)
      have n13_ := Aside0.mk (Kd.R_below (by (with_reducible repeat (first | apply Kd.R_alloc | apply Kd.R_drewN | apply Kd.R_drew)); exact HO426.out) hb)
      have n14_ := Aside0.mk (Kd.R_below (by (with_reducible repeat (first | apply Kd.R_alloc | apply Kd.R_drewN | apply Kd.R_drew)); exact HO429.out) hb)
      have n15_ := Aside0.mk (Kd.R_below (by (with_reducible repeat (first | apply Kd.R_alloc | apply Kd.R_drewN | apply Kd.R_drew)); exact HO433.out) hb)
      have n16_ := Aside0.mk (Kd.R_below (by (with_reducible repeat (first | apply Kd.R_alloc | apply Kd.R_drewN | apply Kd.R_drew)); exact HO436.out) hb)
      have n17_ := Aside0.mk (Kd.S_below (by (with_reducible repeat (first | apply Kd.S_alloc | apply Kd.S_drewN | apply Kd.S_drew)); exact HO439.out) hb)
      have n18_ := bb BK377 hb
      have n19_ := bb BK378 hb
      have n20_ := bb BK409 hb
      have n21_ := bb BK419 hb
      have n22_ := bs HB hb
      clear HO383
      clear HO386
      clear HO389
      clear HO392
      clear HO395
      clear HO398
      clear HO402
      clear HO405
      clear HO408
      clear HO412
      clear HO415
      clear HO418
      clear HO423
      clear HO426
      clear HO429
      clear HO433
      clear HO436
      clear HO439
      clear BK377
      clear BK378
      clear BK409
      clear BK419
      clear HB
      have HO383 := n0_
      have HO386 := n1_
      have HO389 := n2_
      have HO392 := n3_
      have HO395 := n4_
      have HO398 := n5_
      have HO402 := n6_
      have HO405 := n7_
      have HO408 := n8_
      have HO412 := n9_
      have HO415 := n10_
      have HO418 := n11_
      have HO423 := n12_
      have HO426 := n13_
      have HO429 := n14_
      have HO433 := n15_
      have HO436 := n16_
      have HO439 := n17_
      have BK377 := n18_
      have BK378 := n19_
      have BK409 := n20_
      have BK419 := n21_
      have HB := n22_
      clear n0_ n1_ n2_ n3_ n4_ n5_ n6_ n7_ n8_ n9_ n10_ n11_ n12_ n13_ n14_ n15_ n16_ n17_ n18_ n19_ n20_ n21_ n22_
      (try clear hb)
      (try clear hb2)
      (try clear hk)
      (try clear hi)
      refine hK.out _ _ ⟨(blk_cell BK419.out 0).trans rfl, (blk_cell BK419.out 1).trans rfl, (blk_cell BK419.out 2).trans rfl, (blk_cell BK378.out 0).trans rfl, (blk_cell BK378.out 1).trans rfl, (blk_cell BK378.out 2).trans rfl⟩ (fun hHeld => ?_)
      clear hK K
      refine norm_ (a' := ?_) ?_ ?_
      rotate_left
      ·show Act.put _ (some 43) _ = _
       simp only [Act.put, List.setIfInBounds_toArray, List.set_cons_zero, List.set_cons_succ, i64_w, i32_w]
       rfl
      refine pure_ (i := 4) (N := some 44) (v := ?_) (a' := ?_) #[true, true, true, true, true] rfl rfl (by kernel_rfl) (fun _ _ _ h => h) (Or.inl ⟨by rfl, ?_⟩) ?_ ?_
      rotate_left
      ·intro w'
       go_simp
       with_reducible rfl
      rotate_left
      ·simp only [Act.put, List.setIfInBounds_toArray, List.set_cons_zero, List.set_cons_succ, i64_w, i32_w]
       rfl
      refine done_ (by kernel_rfl) ?_
      try go_wp2
      go_ret
      exact ⟨by first | rfl | exact congrArg (fun b_ => Ending.returned (Value.bool b_)) HE_.out | (refine absurd HE_.out ?_; simp [*]; done) | (have h_ := HE_.out; clear HE_; simp_all; done) | (have h_ := HE_.out; clear HE_; simp_all; omega) | (simp [errW_none, errW_some] <;> rfl) | (simp [*, errW_none, errW_some] <;> rfl), bw HB⟩
     ·replace c31 := Bool.eq_false_iff.mpr c31
      subst c31
      have H1 : (some false) = some true := by rw [if_neg (show ¬ (false = true) by decide)] at H; first | done | exact H
      clear H
      have H := H1
      clear H1
      exact absurd (Option.some.inj H) (by decide)
    ·replace c28 := Bool.eq_false_iff.mpr c28
     subst c28
     have H1 : (some false) = some true := by rw [if_neg (show ¬ (false = true) by decide)] at H; first | done | exact H
     clear H
     have H := H1
     clear H1
     exact absurd (Option.some.inj H) (by decide)

end Go.Proofs.YtcomagipdbdglaaDoor.Q
