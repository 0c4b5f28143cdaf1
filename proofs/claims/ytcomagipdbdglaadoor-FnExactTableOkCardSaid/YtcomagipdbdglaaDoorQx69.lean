-- Contracts of the program's functions, each with the plain function that it computes.
import Derived.Test.YtcomagipdbdglaaDoorQx0
import Derived.Test.YtcomagipdbdglaaDoorQx4
import Derived.Test.YtcomagipdbdglaaDoorQx13
import Derived.Test.YtcomagipdbdglaaDoorQx24
import Derived.Test.YtcomagipdbdglaaDoorQx61
import Derived.Test.YtcomagipdbdglaaDoorQx63
import Derived.Test.YtcomagipdbdglaaDoorQx64
import Derived.Test.YtcomagipdbdglaaDoorQx67
import Derived.Test.YtcomagipdbdglaaDoorQx68
namespace Go.Proofs.YtcomagipdbdglaaDoor.Q
open Go.RowKit Go.Proofs.YtcomagipdbdglaaDoorW.PrintWords Go.Proofs.YtcomagipdbdglaaDoorW.PrintLast Go.Proofs.YtcomagipdbdglaaDoorW.PrintMore
attribute [local go_sem] max2_int min2_int max_two min_two max_three min_three max_four min_four   -- for this text's walks alone
set_option linter.unusedVariables false
set_option linter.unusedSimpArgs false

/-! ### laws_FnExactTableOk: function 7 -/
def laws_FnExactTableOk.f (k : Nat) (l0_0 : List ByteArray) (l0_1 : List ByteArray) (l0_2 : List (S141)) (l1 : List (S36)) : Option (Bool) := (laws_szDecl.f k l0_0 l0_1 l0_2 1048576).bind fun t619 => (if t619 < 0 then (some true) else ((laws_szEnvS.f k l1 t619).bind fun t620 => (if t620 < 0 then (some true) else ((laws_toDecl.f k l0_0 l0_1 l0_2).bind fun bt621 => ((laws_toEnvS.f k l1).bind fun t630 => ((spec_TableOk.f k bt621.1 bt621.2.1 bt621.2.2 t630).bind fun t633 => ((laws_toDecl.f k l0_0 l0_1 l0_2).bind fun bt634 => ((laws_toEnvS.f k l1).bind fun t644 => ((impl_TableOk.f bt634.1 bt634.2.1 bt634.2.2 t644).bind fun t647 => (if (t647 != t633) = true then (some false) else ((laws_toDecl.f k l0_0 l0_1 l0_2).bind fun bt648 => ((laws_eqDecl.f k bt634.1 bt634.2.1 bt634.2.2 bt648.1 bt648.2.1 bt648.2.2).bind fun t657 => (if t657 = true then ((laws_toEnvS.f k l1).bind fun t658 => ((laws_eqEnvS.f k t644 t658).bind fun t661 => (if t661 = true then (some true) else (some false)))) else (some false))))))))))))))
theorem laws_FnExactTableOk.mono : ∀ a0 a1 a2 a3 k, LeO (laws_FnExactTableOk.f k a0 a1 a2 a3) (laws_FnExactTableOk.f (k + 1) a0 a1 a2 a3) := by
 intro a0 a1 a2 a3 k
 unfold laws_FnExactTableOk.f
 repeat' first
   | (with_reducible exact laws_eqDecl.mono _ _ _ _ _ _ _)
   | (with_reducible exact laws_eqEnvS.mono _ _ _)
   | (with_reducible exact laws_szDecl.mono _ _ _ _ _)
   | (with_reducible exact laws_szEnvS.mono _ _ _)
   | (with_reducible exact laws_toDecl.mono _ _ _ _)
   | (with_reducible exact laws_toEnvS.mono _ _)
   | (with_reducible exact spec_TableOk.mono _ _ _ _ _)
   | (with_reducible exact LeO.refl _)
   | (with_reducible exact LeO.none _)
   | (with_reducible refine LeO.ite ?_ ?_)
   | (with_reducible refine LeO.bind ?_ (fun _ => ?_))
   | exact laws_eqDecl.mono _ _ _ _ _ _ _
   | exact laws_eqEnvS.mono _ _ _
   | exact laws_szDecl.mono _ _ _ _ _
   | exact laws_szEnvS.mono _ _ _
   | exact laws_toDecl.mono _ _ _ _
   | exact laws_toEnvS.mono _ _
   | exact spec_TableOk.mono _ _ _ _ _
   | exact LeO.none _
   | refine LeO.ite ?_ ?_
   | refine LeO.bind ?_ (fun _ => ?_)
set_option maxHeartbeats 8000000 in
set_option maxRecDepth 100000 in
theorem laws_FnExactTableOk.calls (k : Nat) (A0_0 : Option Addr) (c0_0 : Nat) (l0_0 : List ByteArray) (A0_1 : Option Addr) (c0_1 : Nat) (l0_1 : List ByteArray) (A0_2 : Option Addr) (c0_2 : Nat) (l0_2 : List (S141)) (A1 : Option Addr) (c1 : Nat) (l1 : List (S36)) (w : World) (hr0_0 : Kd.C Kd.string w A0_0 l0_0.length l0_0) (hc0_0 : l0_0.length ≤ c0_0) (hr0_1 : Kd.C Kd.string w A0_1 l0_1.length l0_1) (hc0_1 : l0_1.length ≤ c0_1) (hr0_2 : Kd.C k141 w A0_2 l0_2.length l0_2) (hc0_2 : l0_2.length ≤ c0_2) (hr1 : Kd.C k36 w A1 l1.length l1) (hc1 : l1.length ≤ c1) (h : laws_FnExactTableOk.f k l0_0 l0_1 l0_2 l1 = some true) (hTAB : TabW w := by first | exact HTAB.out | exact TabW.drewN HTAB.out _ | exact TabW.below HTAB.out (by repeat (first | (with_reducible first | exact HB.out | apply below_alloc | apply pw_below_drewN | apply below_drew1 | refine below_set ?_ (Aside0.out (by assumption))) | exact HB.out))) :
  Calls Tryd.prog 7 #[.agg #[.slice A0_0 l0_0.length c0_0, .slice A0_1 l0_1.length c0_1, .slice A0_2 l0_2.length c0_2], .slice A1 l1.length c1] w fun e w' => e = .returned (.bool true) ∧ Below w.heap.size w w' := by
 have HTAB := Aside0.mk hTAB
 clear hTAB
 have hu25 := Tryd.underlying25
 have hu30 := Tryd.underlying30
 have HR0_0 := Aside0.mk hr0_0
 have HC0_0 := Aside0.mk hc0_0
 clear hr0_0 hc0_0
 have HR0_1 := Aside0.mk hr0_1
 have HC0_1 := Aside0.mk hc0_1
 clear hr0_1 hc0_1
 have HR0_2 := Aside0.mk hr0_2
 have HC0_2 := Aside0.mk hc0_2
 clear hr0_2 hc0_2
 have HR1 := Aside0.mk hr1
 have HC1 := Aside0.mk hc1
 clear hr1 hc1
 have HB := Aside0.mk (Below.refl w.heap.size w)
 have H : ((laws_szDecl.f k l0_0 l0_1 l0_2 1048576).bind fun t619 => (if t619 < 0 then (some true) else ((laws_szEnvS.f k l1 t619).bind fun t620 => (if t620 < 0 then (some true) else ((laws_toDecl.f k l0_0 l0_1 l0_2).bind fun bt621 => ((laws_toEnvS.f k l1).bind fun t630 => ((spec_TableOk.f k bt621.1 bt621.2.1 bt621.2.2 t630).bind fun t633 => ((laws_toDecl.f k l0_0 l0_1 l0_2).bind fun bt634 => ((laws_toEnvS.f k l1).bind fun t644 => ((impl_TableOk.f bt634.1 bt634.2.1 bt634.2.2 t644).bind fun t647 => (if (t647 != t633) = true then (some false) else ((laws_toDecl.f k l0_0 l0_1 l0_2).bind fun bt648 => ((laws_eqDecl.f k bt634.1 bt634.2.1 bt634.2.2 bt648.1 bt648.2.1 bt648.2.2).bind fun t657 => (if t657 = true then ((laws_toEnvS.f k l1).bind fun t658 => ((laws_eqEnvS.f k t644 t658).bind fun t661 => (if t661 = true then (some true) else (some false)))) else (some false))))))))))))))) = some true := h
 clear h
 replace H := Option.bind_eq_some_iff.mp H
 obtain ⟨t619, A30, H⟩ := H
 replace H : (if t619 < 0 then (some true) else ((laws_szEnvS.f k l1 t619).bind fun t620 => (if t620 < 0 then (some true) else ((laws_toDecl.f k l0_0 l0_1 l0_2).bind fun bt621 => ((laws_toEnvS.f k l1).bind fun t630 => ((spec_TableOk.f k bt621.1 bt621.2.1 bt621.2.2 t630).bind fun t633 => ((laws_toDecl.f k l0_0 l0_1 l0_2).bind fun bt634 => ((laws_toEnvS.f k l1).bind fun t644 => ((impl_TableOk.f bt634.1 bt634.2.1 bt634.2.2 t644).bind fun t647 => (if (t647 != t633) = true then (some false) else ((laws_toDecl.f k l0_0 l0_1 l0_2).bind fun bt648 => ((laws_eqDecl.f k bt634.1 bt634.2.1 bt634.2.2 bt648.1 bt648.2.1 bt648.2.2).bind fun t657 => (if t657 = true then ((laws_toEnvS.f k l1).bind fun t658 => ((laws_eqEnvS.f k t644 t658).bind fun t661 => (if t661 = true then (some true) else (some false)))) else (some false)))))))))))))) = some true := H
 have A3 := Aside0.mk A30
 clear A30
 by_cases c4 : t619 < 0
 ·rw [if_pos c4] at H
  have c4b0 : decide (t619 < 0) = true := decide_eq_true c4
  clear c4
  have HE_ := Aside0.mk (Option.some.inj H)
  clear H
  go_enter Tryd.func7, Tryd.ntmps7
  go_wp2_with (first | ((with_reducible refine gate_dst (N := 2) rfl ?_); refine box_event rfl rfl (cs := #[.slice A0_0 l0_0.length c0_0, .slice A0_1 l0_1.length c0_1, .slice A0_2 l0_2.length c0_2]) (t := 25) (by first | (go_simp; done) | (go_simp; rfl)) ?_; intro gb618 hg w5 hbox hb; have BK618 := Aside0.mk (hbox); have GW618 := bz HB hg; have GE618 := bz HB hg; replace HB := bs HB hb; clear hb hbox hg; have hcz6_0 : w5.cell? ⟨gb618, 0, none⟩ = some (.slice A0_0 l0_0.length c0_0) := (blk_cell BK618.out 0).trans rfl; have hcz6_1 : w5.cell? ⟨gb618, 1, none⟩ = some (.slice A0_1 l0_1.length c0_1) := (blk_cell BK618.out 1).trans rfl; have hcz6_2 : w5.cell? ⟨gb618, 2, none⟩ = some (.slice A0_2 l0_2.length c0_2) := (blk_cell BK618.out 2).trans rfl; have hfz6_0 := blk_frozen BK618.out 0; have hfz6_1 := blk_frozen BK618.out 1; have hfz6_2 := blk_frozen BK618.out 2) | ((with_reducible refine gate_callee (f := 12) rfl ?_); refine goesL_ (some 12) rfl rfl Tryd.func12 (by kernel_rfl) rfl #[.agg #[.slice A0_0 l0_0.length c0_0, .slice A0_1 l0_1.length c0_1, .slice A0_2 l0_2.length c0_2], .int .i64 1048576] rfl (by (try simp only [List.map_toArray, List.map_cons, List.map_nil]); first | done | rfl | (simp only [List.length_drop, List.length_take]; rfl)) ?_; (with_reducible refine (laws_szDecl.calls k _ _ l0_0 _ _ l0_1 _ _ l0_2 1048576 t619 _ ?side1 ?side2 ?side3 ?side4 ?side5 ?side6 A3.out).mono ?_); (case side1 => repeat (first | exact (Kd.C_below HR0_0.out HB.out) | (with_reducible refine Kd.C_alloc ?_ _) | (with_reducible refine Kd.C_drewN ?_ _) | (with_reducible refine Kd.C_drew ?_))); (case side2 => exact HC0_0.out); (case side3 => repeat (first | exact (Kd.C_below HR0_1.out HB.out) | (with_reducible refine Kd.C_alloc ?_ _) | (with_reducible refine Kd.C_drewN ?_ _) | (with_reducible refine Kd.C_drew ?_))); (case side4 => exact HC0_1.out); (case side5 => repeat (first | exact (Kd.C_below HR0_2.out HB.out) | (with_reducible refine Kd.C_alloc ?_ _) | (with_reducible refine Kd.C_drewN ?_ _) | (with_reducible refine Kd.C_drew ?_))); (case side6 => exact HC0_2.out); rintro e w7 ⟨rfl, hb⟩; refine ⟨_, rfl, ?_⟩; replace BK618 := bb BK618 hb; replace HB := bs HB hb; (try clear hb); (try clear hb2); (try clear hk); (try clear hi)))
  go_ret
  exact ⟨by first | rfl | exact congrArg (fun b_ => Ending.returned (Value.bool b_)) HE_.out | (refine absurd HE_.out ?_; simp [*]; done) | (have h_ := HE_.out; clear HE_; simp_all; done) | (have h_ := HE_.out; clear HE_; simp_all; omega) | (simp [errW_none, errW_some] <;> rfl) | (simp [*, errW_none, errW_some] <;> rfl), bw HB⟩
 ·rw [if_neg c4] at H
  have c4b0 : decide (t619 < 0) = false := decide_eq_false c4
  clear c4
  replace H := Option.bind_eq_some_iff.mp H
  obtain ⟨t620, A80, H⟩ := H
  replace H : (if t620 < 0 then (some true) else ((laws_toDecl.f k l0_0 l0_1 l0_2).bind fun bt621 => ((laws_toEnvS.f k l1).bind fun t630 => ((spec_TableOk.f k bt621.1 bt621.2.1 bt621.2.2 t630).bind fun t633 => ((laws_toDecl.f k l0_0 l0_1 l0_2).bind fun bt634 => ((laws_toEnvS.f k l1).bind fun t644 => ((impl_TableOk.f bt634.1 bt634.2.1 bt634.2.2 t644).bind fun t647 => (if (t647 != t633) = true then (some false) else ((laws_toDecl.f k l0_0 l0_1 l0_2).bind fun bt648 => ((laws_eqDecl.f k bt634.1 bt634.2.1 bt634.2.2 bt648.1 bt648.2.1 bt648.2.2).bind fun t657 => (if t657 = true then ((laws_toEnvS.f k l1).bind fun t658 => ((laws_eqEnvS.f k t644 t658).bind fun t661 => (if t661 = true then (some true) else (some false)))) else (some false)))))))))))) = some true := H
  have A8 := Aside0.mk A80
  clear A80
  by_cases c9 : t620 < 0
  ·rw [if_pos c9] at H
   have c9b0 : decide (t620 < 0) = true := decide_eq_true c9
   clear c9
   have HE_ := Aside0.mk (Option.some.inj H)
   clear H
   go_enter Tryd.func7, Tryd.ntmps7
   go_wp2_with (first | ((with_reducible refine gate_dst (N := 2) rfl ?_); refine box_event rfl rfl (cs := #[.slice A0_0 l0_0.length c0_0, .slice A0_1 l0_1.length c0_1, .slice A0_2 l0_2.length c0_2]) (t := 25) (by first | (go_simp; done) | (go_simp; rfl)) ?_; intro gb618 hg w10 hbox hb; have BK618 := Aside0.mk (hbox); have GW618 := bz HB hg; have GE618 := bz HB hg; replace HB := bs HB hb; clear hb hbox hg; have hcz11_0 : w10.cell? ⟨gb618, 0, none⟩ = some (.slice A0_0 l0_0.length c0_0) := (blk_cell BK618.out 0).trans rfl; have hcz11_1 : w10.cell? ⟨gb618, 1, none⟩ = some (.slice A0_1 l0_1.length c0_1) := (blk_cell BK618.out 1).trans rfl; have hcz11_2 : w10.cell? ⟨gb618, 2, none⟩ = some (.slice A0_2 l0_2.length c0_2) := (blk_cell BK618.out 2).trans rfl; have hfz11_0 := blk_frozen BK618.out 0; have hfz11_1 := blk_frozen BK618.out 1; have hfz11_2 := blk_frozen BK618.out 2) | ((with_reducible refine gate_callee (f := 12) rfl ?_); refine goesL_ (some 12) rfl rfl Tryd.func12 (by kernel_rfl) rfl #[.agg #[.slice A0_0 l0_0.length c0_0, .slice A0_1 l0_1.length c0_1, .slice A0_2 l0_2.length c0_2], .int .i64 1048576] rfl (by (try simp only [List.map_toArray, List.map_cons, List.map_nil]); first | done | rfl | (simp only [List.length_drop, List.length_take]; rfl)) ?_; (with_reducible refine (laws_szDecl.calls k _ _ l0_0 _ _ l0_1 _ _ l0_2 1048576 t619 _ ?side1 ?side2 ?side3 ?side4 ?side5 ?side6 A3.out).mono ?_); (case side1 => repeat (first | exact (Kd.C_below HR0_0.out HB.out) | (with_reducible refine Kd.C_alloc ?_ _) | (with_reducible refine Kd.C_drewN ?_ _) | (with_reducible refine Kd.C_drew ?_))); (case side2 => exact HC0_0.out); (case side3 => repeat (first | exact (Kd.C_below HR0_1.out HB.out) | (with_reducible refine Kd.C_alloc ?_ _) | (with_reducible refine Kd.C_drewN ?_ _) | (with_reducible refine Kd.C_drew ?_))); (case side4 => exact HC0_1.out); (case side5 => repeat (first | exact (Kd.C_below HR0_2.out HB.out) | (with_reducible refine Kd.C_alloc ?_ _) | (with_reducible refine Kd.C_drewN ?_ _) | (with_reducible refine Kd.C_drew ?_))); (case side6 => exact HC0_2.out); rintro e w12 ⟨rfl, hb⟩; refine ⟨_, rfl, ?_⟩; replace BK618 := bb BK618 hb; replace HB := bs HB hb; (try clear hb); (try clear hb2); (try clear hk); (try clear hi)) | ((with_reducible refine gate_callee (f := 29) rfl ?_); refine goesL_ (some 17) rfl rfl Tryd.func29 (by kernel_rfl) rfl #[.slice A1 l1.length c1, .int .i64 t619] rfl (by (try simp only [List.map_toArray, List.map_cons, List.map_nil]); first | done | rfl | (simp only [List.length_drop, List.length_take]; rfl)) ?_; (with_reducible refine (laws_szEnvS.calls k _ _ l1 t619 t620 _ ?side1 ?side2 A8.out).mono ?_); (case side1 => repeat (first | exact (Kd.C_below HR1.out HB.out) | (with_reducible refine Kd.C_alloc ?_ _) | (with_reducible refine Kd.C_drewN ?_ _) | (with_reducible refine Kd.C_drew ?_))); (case side2 => exact HC1.out); rintro e w13 ⟨rfl, hb⟩; refine ⟨_, rfl, ?_⟩; replace BK618 := bb BK618 hb; replace HB := bs HB hb; (try clear hb); (try clear hb2); (try clear hk); (try clear hi)))
   go_ret
   exact ⟨by first | rfl | exact congrArg (fun b_ => Ending.returned (Value.bool b_)) HE_.out | (refine absurd HE_.out ?_; simp [*]; done) | (have h_ := HE_.out; clear HE_; simp_all; done) | (have h_ := HE_.out; clear HE_; simp_all; omega) | (simp [errW_none, errW_some] <;> rfl) | (simp [*, errW_none, errW_some] <;> rfl), bw HB⟩
  ·rw [if_neg c9] at H
   have c9b0 : decide (t620 < 0) = false := decide_eq_false c9
   clear c9
   replace H := Option.bind_eq_some_iff.mp H
   obtain ⟨⟨t621, t624, t627⟩, A140, H⟩ := H
   replace H : ((laws_toEnvS.f k l1).bind fun t630 => ((spec_TableOk.f k t621 t624 t627 t630).bind fun t633 => ((laws_toDecl.f k l0_0 l0_1 l0_2).bind fun bt634 => ((laws_toEnvS.f k l1).bind fun t644 => ((impl_TableOk.f bt634.1 bt634.2.1 bt634.2.2 t644).bind fun t647 => (if (t647 != t633) = true then (some false) else ((laws_toDecl.f k l0_0 l0_1 l0_2).bind fun bt648 => ((laws_eqDecl.f k bt634.1 bt634.2.1 bt634.2.2 bt648.1 bt648.2.1 bt648.2.2).bind fun t657 => (if t657 = true then ((laws_toEnvS.f k l1).bind fun t658 => ((laws_eqEnvS.f k t644 t658).bind fun t661 => (if t661 = true then (some true) else (some false)))) else (some false)))))))))) = some true := H
   have A14 := Aside0.mk A140
   clear A140
   replace H := Option.bind_eq_some_iff.mp H
   obtain ⟨t630, A150, H⟩ := H
   replace H : ((spec_TableOk.f k t621 t624 t627 t630).bind fun t633 => ((laws_toDecl.f k l0_0 l0_1 l0_2).bind fun bt634 => ((laws_toEnvS.f k l1).bind fun t644 => ((impl_TableOk.f bt634.1 bt634.2.1 bt634.2.2 t644).bind fun t647 => (if (t647 != t633) = true then (some false) else ((laws_toDecl.f k l0_0 l0_1 l0_2).bind fun bt648 => ((laws_eqDecl.f k bt634.1 bt634.2.1 bt634.2.2 bt648.1 bt648.2.1 bt648.2.2).bind fun t657 => (if t657 = true then ((laws_toEnvS.f k l1).bind fun t658 => ((laws_eqEnvS.f k t644 t658).bind fun t661 => (if t661 = true then (some true) else (some false)))) else (some false))))))))) = some true := H
   have A15 := Aside0.mk A150
   clear A150
   replace H := Option.bind_eq_some_iff.mp H
   obtain ⟨t633, A160, H⟩ := H
   replace H : ((laws_toDecl.f k l0_0 l0_1 l0_2).bind fun bt634 => ((laws_toEnvS.f k l1).bind fun t644 => ((impl_TableOk.f bt634.1 bt634.2.1 bt634.2.2 t644).bind fun t647 => (if (t647 != t633) = true then (some false) else ((laws_toDecl.f k l0_0 l0_1 l0_2).bind fun bt648 => ((laws_eqDecl.f k bt634.1 bt634.2.1 bt634.2.2 bt648.1 bt648.2.1 bt648.2.2).bind fun t657 => (if t657 = true then ((laws_toEnvS.f k l1).bind fun t658 => ((laws_eqEnvS.f k t644 t658).bind fun t661 => (if t661 = true then (some true) else (some false)))) else (some false)))))))) = some true := H
   have A16 := Aside0.mk A160
   clear A160
   replace H := Option.bind_eq_some_iff.mp H
   obtain ⟨⟨t634, t637, t640⟩, A170, H⟩ := H
   replace H : ((laws_toEnvS.f k l1).bind fun t644 => ((impl_TableOk.f t634 t637 t640 t644).bind fun t647 => (if (t647 != t633) = true then (some false) else ((laws_toDecl.f k l0_0 l0_1 l0_2).bind fun bt648 => ((laws_eqDecl.f k t634 t637 t640 bt648.1 bt648.2.1 bt648.2.2).bind fun t657 => (if t657 = true then ((laws_toEnvS.f k l1).bind fun t658 => ((laws_eqEnvS.f k t644 t658).bind fun t661 => (if t661 = true then (some true) else (some false)))) else (some false))))))) = some true := H
   have A17 := Aside0.mk A170
   clear A170
   replace H := Option.bind_eq_some_iff.mp H
   obtain ⟨t644, A180, H⟩ := H
   replace H : ((impl_TableOk.f t634 t637 t640 t644).bind fun t647 => (if (t647 != t633) = true then (some false) else ((laws_toDecl.f k l0_0 l0_1 l0_2).bind fun bt648 => ((laws_eqDecl.f k t634 t637 t640 bt648.1 bt648.2.1 bt648.2.2).bind fun t657 => (if t657 = true then ((laws_toEnvS.f k l1).bind fun t658 => ((laws_eqEnvS.f k t644 t658).bind fun t661 => (if t661 = true then (some true) else (some false)))) else (some false)))))) = some true := H
   have A18 := Aside0.mk A180
   clear A180
   replace H := Option.bind_eq_some_iff.mp H
   obtain ⟨t647, A190, H⟩ := H
   replace H : (if (t647 != t633) = true then (some false) else ((laws_toDecl.f k l0_0 l0_1 l0_2).bind fun bt648 => ((laws_eqDecl.f k t634 t637 t640 bt648.1 bt648.2.1 bt648.2.2).bind fun t657 => (if t657 = true then ((laws_toEnvS.f k l1).bind fun t658 => ((laws_eqEnvS.f k t644 t658).bind fun t661 => (if t661 = true then (some true) else (some false)))) else (some false))))) = some true := H
   have A19 := Aside0.mk A190
   clear A190
   by_cases c20 : (t647 != t633) = true
   ·rw [if_pos c20] at H
    have c20b0 : (t647 != t633) = true := c20
    (try (have c20b1 : decide (t647 = t633) = false := by simpa using c20))
    (try (have c20b2 : (t647 == t633) = false := by simpa using c20))
    (try (have c20b3 : ¬ (t647 = t633) := by simpa using c20))
    clear c20
    exact absurd (Option.some.inj H) (by decide)
   ·rw [if_neg c20] at H
    have c20b0 : (t647 != t633) = false := by simpa using c20
    (try (have c20b1 : decide (t647 = t633) = true := by simpa using c20))
    (try (have c20b2 : (t647 == t633) = true := by simpa using c20))
    clear c20
    replace H := Option.bind_eq_some_iff.mp H
    obtain ⟨⟨t648, t651, t654⟩, A210, H⟩ := H
    replace H : ((laws_eqDecl.f k t634 t637 t640 t648 t651 t654).bind fun t657 => (if t657 = true then ((laws_toEnvS.f k l1).bind fun t658 => ((laws_eqEnvS.f k t644 t658).bind fun t661 => (if t661 = true then (some true) else (some false)))) else (some false))) = some true := H
    have A21 := Aside0.mk A210
    clear A210
    replace H := Option.bind_eq_some_iff.mp H
    obtain ⟨t657, A220, H⟩ := H
    replace H : (if t657 = true then ((laws_toEnvS.f k l1).bind fun t658 => ((laws_eqEnvS.f k t644 t658).bind fun t661 => (if t661 = true then (some true) else (some false)))) else (some false)) = some true := H
    have A22 := Aside0.mk A220
    clear A220
    by_cases c23 : t657 = true
    ·subst c23
     have H1 : ((laws_toEnvS.f k l1).bind fun t658 => ((laws_eqEnvS.f k t644 t658).bind fun t661 => (if t661 = true then (some true) else (some false)))) = some true := by rw [if_pos rfl] at H; first | done | exact H
     clear H
     have H := H1
     clear H1
     replace H := Option.bind_eq_some_iff.mp H
     obtain ⟨t658, A240, H⟩ := H
     replace H : ((laws_eqEnvS.f k t644 t658).bind fun t661 => (if t661 = true then (some true) else (some false))) = some true := H
     have A24 := Aside0.mk A240
     clear A240
     replace H := Option.bind_eq_some_iff.mp H
     obtain ⟨t661, A250, H⟩ := H
     replace H : (if t661 = true then (some true) else (some false)) = some true := H
     have A25 := Aside0.mk A250
     clear A250
     by_cases c26 : t661 = true
     ·subst c26
      have H1 : (some true) = some true := by rw [if_pos rfl] at H; first | done | exact H
      clear H
      have H := H1
      clear H1
      have HE_ := Aside0.mk (Option.some.inj H)
      clear H
      go_enter Tryd.func7, Tryd.ntmps7
      try go_wp2_with (first | ((with_reducible refine gate_dst (N := 2) rfl ?_); refine box_event rfl rfl (cs := #[.slice A0_0 l0_0.length c0_0, .slice A0_1 l0_1.length c0_1, .slice A0_2 l0_2.length c0_2]) (t := 25) (by first | (go_simp; done) | (go_simp; rfl)) ?_; intro gb618 hg w27 hbox hb; have BK618 := Aside0.mk (hbox); have GW618 := bz HB hg; have GE618 := bz HB hg; replace HB := bs HB hb; clear hb hbox hg; have hcz28_0 : w27.cell? ⟨gb618, 0, none⟩ = some (.slice A0_0 l0_0.length c0_0) := (blk_cell BK618.out 0).trans rfl; have hcz28_1 : w27.cell? ⟨gb618, 1, none⟩ = some (.slice A0_1 l0_1.length c0_1) := (blk_cell BK618.out 1).trans rfl; have hcz28_2 : w27.cell? ⟨gb618, 2, none⟩ = some (.slice A0_2 l0_2.length c0_2) := (blk_cell BK618.out 2).trans rfl; have hfz28_0 := blk_frozen BK618.out 0; have hfz28_1 := blk_frozen BK618.out 1; have hfz28_2 := blk_frozen BK618.out 2) | ((with_reducible refine gate_callee (f := 12) rfl ?_); refine goesL_ (some 12) rfl rfl Tryd.func12 (by kernel_rfl) rfl #[.agg #[.slice A0_0 l0_0.length c0_0, .slice A0_1 l0_1.length c0_1, .slice A0_2 l0_2.length c0_2], .int .i64 1048576] rfl (by (try simp only [List.map_toArray, List.map_cons, List.map_nil]); first | done | rfl | (simp only [List.length_drop, List.length_take]; rfl)) ?_; (with_reducible refine (laws_szDecl.calls k _ _ l0_0 _ _ l0_1 _ _ l0_2 1048576 t619 _ ?side1 ?side2 ?side3 ?side4 ?side5 ?side6 A3.out).mono ?_); (case side1 => repeat (first | exact (Kd.C_below HR0_0.out HB.out) | (with_reducible refine Kd.C_alloc ?_ _) | (with_reducible refine Kd.C_drewN ?_ _) | (with_reducible refine Kd.C_drew ?_))); (case side2 => exact HC0_0.out); (case side3 => repeat (first | exact (Kd.C_below HR0_1.out HB.out) | (with_reducible refine Kd.C_alloc ?_ _) | (with_reducible refine Kd.C_drewN ?_ _) | (with_reducible refine Kd.C_drew ?_))); (case side4 => exact HC0_1.out); (case side5 => repeat (first | exact (Kd.C_below HR0_2.out HB.out) | (with_reducible refine Kd.C_alloc ?_ _) | (with_reducible refine Kd.C_drewN ?_ _) | (with_reducible refine Kd.C_drew ?_))); (case side6 => exact HC0_2.out); rintro e w29 ⟨rfl, hb⟩; refine ⟨_, rfl, ?_⟩; replace BK618 := bb BK618 hb; replace HB := bs HB hb; (try clear hb); (try clear hb2); (try clear hk); (try clear hi)) | ((with_reducible refine gate_callee (f := 29) rfl ?_); refine goesL_ (some 17) rfl rfl Tryd.func29 (by kernel_rfl) rfl #[.slice A1 l1.length c1, .int .i64 t619] rfl (by (try simp only [List.map_toArray, List.map_cons, List.map_nil]); first | done | rfl | (simp only [List.length_drop, List.length_take]; rfl)) ?_; (with_reducible refine (laws_szEnvS.calls k _ _ l1 t619 t620 _ ?side1 ?side2 A8.out).mono ?_); (case side1 => repeat (first | exact (Kd.C_below HR1.out HB.out) | (with_reducible refine Kd.C_alloc ?_ _) | (with_reducible refine Kd.C_drewN ?_ _) | (with_reducible refine Kd.C_drew ?_))); (case side2 => exact HC1.out); rintro e w30 ⟨rfl, hb⟩; refine ⟨_, rfl, ?_⟩; replace BK618 := bb BK618 hb; replace HB := bs HB hb; (try clear hb); (try clear hb2); (try clear hk); (try clear hi); have hcz31_0 : w30.cell? ⟨gb618, 0, none⟩ = some (.slice A0_0 l0_0.length c0_0) := (blk_cell BK618.out 0).trans rfl; have hcz31_1 : w30.cell? ⟨gb618, 1, none⟩ = some (.slice A0_1 l0_1.length c0_1) := (blk_cell BK618.out 1).trans rfl; have hcz31_2 : w30.cell? ⟨gb618, 2, none⟩ = some (.slice A0_2 l0_2.length c0_2) := (blk_cell BK618.out 2).trans rfl; have hfz31_0 := blk_frozen BK618.out 0; have hfz31_1 := blk_frozen BK618.out 1; have hfz31_2 := blk_frozen BK618.out 2) | ((with_reducible refine gate_callee (f := 14) rfl ?_); refine goesL_ (some 21) rfl rfl Tryd.func14 (by kernel_rfl) rfl #[.agg #[.slice A0_0 l0_0.length c0_0, .slice A0_1 l0_1.length c0_1, .slice A0_2 l0_2.length c0_2]] rfl (by (try simp only [List.map_toArray, List.map_cons, List.map_nil]); first | done | rfl | (simp only [List.length_drop, List.length_take]; rfl)) ?_; (with_reducible refine (laws_toDecl.calls k _ _ l0_0 _ _ l0_1 _ _ l0_2 t621 t624 t627 _ ?side1 ?side2 ?side3 ?side4 ?side5 ?side6 A14.out).mono ?_); (case side1 => repeat (first | exact (Kd.C_below HR0_0.out HB.out) | (with_reducible refine Kd.C_alloc ?_ _) | (with_reducible refine Kd.C_drewN ?_ _) | (with_reducible refine Kd.C_drew ?_))); (case side2 => exact HC0_0.out); (case side3 => repeat (first | exact (Kd.C_below HR0_1.out HB.out) | (with_reducible refine Kd.C_alloc ?_ _) | (with_reducible refine Kd.C_drewN ?_ _) | (with_reducible refine Kd.C_drew ?_))); (case side4 => exact HC0_1.out); (case side5 => repeat (first | exact (Kd.C_below HR0_2.out HB.out) | (with_reducible refine Kd.C_alloc ?_ _) | (with_reducible refine Kd.C_drewN ?_ _) | (with_reducible refine Kd.C_drew ?_))); (case side6 => exact HC0_2.out); rintro e w32 ⟨v622, v625, v628, rfl, ho0, ho1, ho2, hb⟩; refine ⟨_, rfl, ?_⟩; have HO623 := Aside0.mk (Kd.R_lower ho0 (below_size (bw HB))); have HO626 := Aside0.mk (Kd.R_lower ho1 (below_size (bw HB))); have HO629 := Aside0.mk (Kd.R_lower ho2 (below_size (bw HB))); replace BK618 := bb BK618 hb; replace HB := bs HB hb; (try clear hb); (try clear hb2); (try clear hk); (try clear hi); (try clear ho0); (try clear ho1); (try clear ho2)) | ((with_reducible refine gate_callee (f := 31) rfl ?_); refine goesL_ (some 23) rfl rfl Tryd.func31 (by kernel_rfl) rfl #[.slice A1 l1.length c1] rfl (by (try simp only [List.map_toArray, List.map_cons, List.map_nil]); first | done | rfl | (simp only [List.length_drop, List.length_take]; rfl)) ?_; (with_reducible refine (laws_toEnvS.calls k _ _ l1 t630 _ ?side1 ?side2 A15.out).mono ?_); (case side1 => repeat (first | exact (Kd.C_below HR1.out HB.out) | (with_reducible refine Kd.C_alloc ?_ _) | (with_reducible refine Kd.C_drewN ?_ _) | (with_reducible refine Kd.C_drew ?_))); (case side2 => exact HC1.out); rintro e w33 ⟨v631, rfl, ho0, hb⟩; refine ⟨_, rfl, ?_⟩; replace HO623 := Aside0.mk (Kd.R_below (by (with_reducible repeat (first | apply Kd.R_alloc | apply Kd.R_drewN | apply Kd.R_drew)); exact HO623.out) hb); replace HO626 := Aside0.mk (Kd.R_below (by (with_reducible repeat (first | apply Kd.R_alloc | apply Kd.R_drewN | apply Kd.R_drew)); exact HO626.out) hb); replace HO629 := Aside0.mk (Kd.R_below (by (with_reducible repeat (first | apply Kd.R_alloc | apply Kd.R_drewN | apply Kd.R_drew)); exact HO629.out) hb); have HO632 := Aside0.mk (Kd.S_lower ho0 (below_size (bw HB))); replace BK618 := bb BK618 hb; replace HB := bs HB hb; (try clear hb); (try clear hb2); (try clear hk); (try clear hi); (try clear ho0); obtain ⟨Ao34, co34, eo34⟩ := Kd.R_slice HO623.out; subst eo34; obtain ⟨Ao35, co35, eo35⟩ := Kd.R_slice HO626.out; subst eo35; obtain ⟨Ao36, co36, eo36⟩ := Kd.R_slice HO629.out; subst eo36; obtain ⟨Ao37, co37, eo37⟩ := Kd.S_slice HO632.out; subst eo37) | ((with_reducible refine gate_callee (f := 30) rfl ?_); refine goesL_ (some 24) rfl rfl Tryd.func30 (by kernel_rfl) rfl #[.agg #[.slice Ao34 t621.length co34, .slice Ao35 t624.length co35, .slice Ao36 t627.length co36], .slice Ao37 t630.length co37] rfl (by (try simp only [List.map_toArray, List.map_cons, List.map_nil]); first | done | rfl | (simp only [List.length_drop, List.length_take]; rfl)) ?_; (with_reducible refine (spec_TableOk.calls k _ _ t621 _ _ t624 _ _ t627 _ _ t630 t633 _ ?side1 ?side2 ?side3 ?side4 ?side5 ?side6 ?side7 ?side8 A16.out).mono ?_); (case side1 => repeat (first | exact (Kd.R_reads' HO623.out).2.2 | (with_reducible refine Kd.C_alloc ?_ _) | (with_reducible refine Kd.C_drewN ?_ _) | (with_reducible refine Kd.C_drew ?_))); (case side2 => exact (Kd.R_reads' HO623.out).2.1); (case side3 => repeat (first | exact (Kd.R_reads' HO626.out).2.2 | (with_reducible refine Kd.C_alloc ?_ _) | (with_reducible refine Kd.C_drewN ?_ _) | (with_reducible refine Kd.C_drew ?_))); (case side4 => exact (Kd.R_reads' HO626.out).2.1); (case side5 => repeat (first | exact (Kd.R_reads' HO629.out).2.2 | (with_reducible refine Kd.C_alloc ?_ _) | (with_reducible refine Kd.C_drewN ?_ _) | (with_reducible refine Kd.C_drew ?_))); (case side6 => exact (Kd.R_reads' HO629.out).2.1); (case side7 => repeat (first | exact (Kd.S_reads' HO632.out).2.2 | (with_reducible refine Kd.C_alloc ?_ _) | (with_reducible refine Kd.C_drewN ?_ _) | (with_reducible refine Kd.C_drew ?_))); (case side8 => exact (Kd.S_reads' HO632.out).2.1); rintro e w38 ⟨rfl, hb⟩; refine ⟨_, rfl, ?_⟩; replace HO623 := Aside0.mk (Kd.R_below (by (with_reducible repeat (first | apply Kd.R_alloc | apply Kd.R_drewN | apply Kd.R_drew)); exact HO623.out) hb); replace HO626 := Aside0.mk (Kd.R_below (by (with_reducible repeat (first | apply Kd.R_alloc | apply Kd.R_drewN | apply Kd.R_drew)); exact HO626.out) hb); replace HO629 := Aside0.mk (Kd.R_below (by (with_reducible repeat (first | apply Kd.R_alloc | apply Kd.R_drewN | apply Kd.R_drew)); exact HO629.out) hb); replace HO632 := Aside0.mk (Kd.S_below (by (with_reducible repeat (first | apply Kd.S_alloc | apply Kd.S_drewN | apply Kd.S_drew)); exact HO632.out) hb); replace BK618 := bb BK618 hb; replace HB := bs HB hb; (try clear hb); (try clear hb2); (try clear hk); (try clear hi); have hcz39_0 : w38.cell? ⟨gb618, 0, none⟩ = some (.slice A0_0 l0_0.length c0_0) := (blk_cell BK618.out 0).trans rfl; have hcz39_1 : w38.cell? ⟨gb618, 1, none⟩ = some (.slice A0_1 l0_1.length c0_1) := (blk_cell BK618.out 1).trans rfl; have hcz39_2 : w38.cell? ⟨gb618, 2, none⟩ = some (.slice A0_2 l0_2.length c0_2) := (blk_cell BK618.out 2).trans rfl; have hfz39_0 := blk_frozen BK618.out 0; have hfz39_1 := blk_frozen BK618.out 1; have hfz39_2 := blk_frozen BK618.out 2) | ((with_reducible refine gate_callee (f := 14) rfl ?_); refine goesL_ (some 26) rfl rfl Tryd.func14 (by kernel_rfl) rfl #[.agg #[.slice A0_0 l0_0.length c0_0, .slice A0_1 l0_1.length c0_1, .slice A0_2 l0_2.length c0_2]] rfl (by (try simp only [List.map_toArray, List.map_cons, List.map_nil]); first | done | rfl | (simp only [List.length_drop, List.length_take]; rfl)) ?_; (with_reducible refine (laws_toDecl.calls k _ _ l0_0 _ _ l0_1 _ _ l0_2 t634 t637 t640 _ ?side1 ?side2 ?side3 ?side4 ?side5 ?side6 A17.out).mono ?_); (case side1 => repeat (first | exact (Kd.C_below HR0_0.out HB.out) | (with_reducible refine Kd.C_alloc ?_ _) | (with_reducible refine Kd.C_drewN ?_ _) | (with_reducible refine Kd.C_drew ?_))); (case side2 => exact HC0_0.out); (case side3 => repeat (first | exact (Kd.C_below HR0_1.out HB.out) | (with_reducible refine Kd.C_alloc ?_ _) | (with_reducible refine Kd.C_drewN ?_ _) | (with_reducible refine Kd.C_drew ?_))); (case side4 => exact HC0_1.out); (case side5 => repeat (first | exact (Kd.C_below HR0_2.out HB.out) | (with_reducible refine Kd.C_alloc ?_ _) | (with_reducible refine Kd.C_drewN ?_ _) | (with_reducible refine Kd.C_drew ?_))); (case side6 => exact HC0_2.out); rintro e w40 ⟨v635, v638, v641, rfl, ho0, ho1, ho2, hb⟩; refine ⟨_, rfl, ?_⟩; replace HO632 := Aside0.mk (Kd.S_below (by (with_reducible repeat (first | apply Kd.S_alloc | apply Kd.S_drewN | apply Kd.S_drew)); exact HO632.out) hb); have HO636 := Aside0.mk (Kd.R_lower (Kd.R_new' (Kd.R_new' ho0 (Kd.R_lt (by (with_reducible repeat (first | apply Kd.R_alloc | apply Kd.R_drewN | apply Kd.R_drew)); exact HO623.out))) (Kd.R_lt (by (with_reducible repeat (first | apply Kd.R_alloc | apply Kd.R_drewN | apply Kd.R_drew)); exact HO626.out))) (below_size (bw HB))); have HO639 := Aside0.mk (Kd.R_lower (Kd.R_new' (Kd.R_new' ho1 (Kd.R_lt (by (with_reducible repeat (first | apply Kd.R_alloc | apply Kd.R_drewN | apply Kd.R_drew)); exact HO623.out))) (Kd.R_lt (by (with_reducible repeat (first | apply Kd.R_alloc | apply Kd.R_drewN | apply Kd.R_drew)); exact HO626.out))) (below_size (bw HB))); replace HO623 := Aside0.mk (Kd.R_mono (Kd.R_told (Kd.R_told (Kd.R_old (by (with_reducible repeat (first | apply Kd.R_alloc | apply Kd.R_drewN | apply Kd.R_drew)); exact HO623.out) hb) (Kd.R_base ho0)) (Kd.R_base ho1)) (fun _ h_ => h_.1)); replace HO626 := Aside0.mk (Kd.R_mono (Kd.R_told (Kd.R_told (Kd.R_old (by (with_reducible repeat (first | apply Kd.R_alloc | apply Kd.R_drewN | apply Kd.R_drew)); exact HO626.out) hb) (Kd.R_base ho0)) (Kd.R_base ho1)) (fun _ h_ => h_.1)); have HO642 := Aside0.mk (Kd.R_lower (Kd.R_new' ho2 (Kd.R_lt (by (with_reducible repeat (first | apply Kd.R_alloc | apply Kd.R_drewN | apply Kd.R_drew)); exact HO629.out))) (below_size (bw HB))); replace HO629 := Aside0.mk (Kd.R_elder' (by (with_reducible repeat (first | apply Kd.R_alloc | apply Kd.R_drewN | apply Kd.R_drew)); exact HO629.out) (Kd.R_base ho2) hb); replace BK618 := bb BK618 hb; replace HB := bs HB hb; (try clear hb); (try clear hb2); (try clear hk); (try clear hi); (try clear ho0); (try clear ho1); (try clear ho2)) | ((with_reducible refine gate_dst (N := 7) rfl ?_); refine box_event rfl rfl (cs := #[.slice none 0 0, .slice none 0 0, .slice none 0 0]) (t := 30) (by first | (go_simp; done) | (go_simp; rfl)) ?_; intro gb643 hg w41 hbox hb; replace HO623 := Aside0.mk (Kd.R_below (by (with_reducible repeat (first | apply Kd.R_alloc | apply Kd.R_drewN | apply Kd.R_drew)); exact HO623.out) hb); replace HO626 := Aside0.mk (Kd.R_below (by (with_reducible repeat (first | apply Kd.R_alloc | apply Kd.R_drewN | apply Kd.R_drew)); exact HO626.out) hb); replace HO629 := Aside0.mk (Kd.R_below (by (with_reducible repeat (first | apply Kd.R_alloc | apply Kd.R_drewN | apply Kd.R_drew)); exact HO629.out) hb); replace HO632 := Aside0.mk (Kd.S_below (by (with_reducible repeat (first | apply Kd.S_alloc | apply Kd.S_drewN | apply Kd.S_drew)); exact HO632.out) hb); replace HO636 := Aside0.mk (Kd.R_below (by (with_reducible repeat (first | apply Kd.R_alloc | apply Kd.R_drewN | apply Kd.R_drew)); exact HO636.out) hb); replace HO639 := Aside0.mk (Kd.R_below (by (with_reducible repeat (first | apply Kd.R_alloc | apply Kd.R_drewN | apply Kd.R_drew)); exact HO639.out) hb); replace HO642 := Aside0.mk (Kd.R_below (by (with_reducible repeat (first | apply Kd.R_alloc | apply Kd.R_drewN | apply Kd.R_drew)); exact HO642.out) hb); have BK643 := Aside0.mk (hbox); have GW643 := bz HB hg; have GE643 := bz HB hg; replace HB := bs HB hb; have NB618_643 := bl BK618 hg; have NB643_618 := bg BK618 hg; replace BK618 := bb BK618 hb; clear hb hbox hg; obtain ⟨Ao42, co42, eo42⟩ := Kd.R_slice HO636.out; subst eo42; have hnb43 := NB643_618.out; have hnc43 := NB618_643.out; have hcz44_0 : w41.cell? ⟨gb643, 0, none⟩ = some (.slice none 0 0) := (blk_cell BK643.out 0).trans rfl; have hcz44_1 : w41.cell? ⟨gb643, 1, none⟩ = some (.slice none 0 0) := (blk_cell BK643.out 1).trans rfl; have hcz44_2 : w41.cell? ⟨gb643, 2, none⟩ = some (.slice none 0 0) := (blk_cell BK643.out 2).trans rfl; have hfz44_0 := blk_frozen BK643.out 0; have hfz44_1 := blk_frozen BK643.out 1; have hfz44_2 := blk_frozen BK643.out 2; obtain ⟨Ao45, co45, eo45⟩ := Kd.R_slice HO639.out; subst eo45; obtain ⟨Ao46, co46, eo46⟩ := Kd.R_slice HO642.out; subst eo46) | ((with_reducible refine gate_callee (f := 31) rfl ?_); refine goesL_ (some 28) rfl rfl Tryd.func31 (by kernel_rfl) rfl #[.slice A1 l1.length c1] rfl (by (try simp only [List.map_toArray, List.map_cons, List.map_nil]); first | done | rfl | (simp only [List.length_drop, List.length_take]; rfl)) ?_; (with_reducible refine (laws_toEnvS.calls k _ _ l1 t644 _ ?side1 ?side2 A18.out).mono ?_); (case side1 => exact Kd.C_below HR1.out (bw HB)); (case side2 => exact HC1.out); rintro e w47 ⟨v645, rfl, ho0, hb⟩; refine ⟨_, rfl, ?_⟩; replace HO623 := Aside0.mk (Kd.R_below (by (with_reducible repeat (first | apply Kd.R_alloc | apply Kd.R_drewN | apply Kd.R_drew)); exact (Kd.R_mono (Kd.R_far (p := ⟨gb643, 2, none⟩) (Kd.R_far (p := ⟨gb643, 1, none⟩) (Kd.R_far (p := ⟨gb643, 0, none⟩) (Kd.R_types HO623.out BK643.out (by decide)) (fun _ hk => hk.2) (.slice Ao42 t634.length co42)) (fun _ hk => hk.2) (.slice Ao45 t637.length co45)) (fun _ hk => hk.2) (.slice Ao46 t640.length co46)) (fun _ h_ => h_.1))) hb); replace HO626 := Aside0.mk (Kd.R_below (by (with_reducible repeat (first | apply Kd.R_alloc | apply Kd.R_drewN | apply Kd.R_drew)); exact (Kd.R_mono (Kd.R_far (p := ⟨gb643, 2, none⟩) (Kd.R_far (p := ⟨gb643, 1, none⟩) (Kd.R_far (p := ⟨gb643, 0, none⟩) (Kd.R_types HO626.out BK643.out (by decide)) (fun _ hk => hk.2) (.slice Ao42 t634.length co42)) (fun _ hk => hk.2) (.slice Ao45 t637.length co45)) (fun _ hk => hk.2) (.slice Ao46 t640.length co46)) (fun _ h_ => h_.1))) hb); replace HO629 := Aside0.mk (Kd.R_below (by (with_reducible repeat (first | apply Kd.R_alloc | apply Kd.R_drewN | apply Kd.R_drew)); exact (Kd.R_mono (Kd.R_far (p := ⟨gb643, 2, none⟩) (Kd.R_far (p := ⟨gb643, 1, none⟩) (Kd.R_far (p := ⟨gb643, 0, none⟩) (Kd.R_types HO629.out BK643.out (by decide)) (fun _ hk => hk.2) (.slice Ao42 t634.length co42)) (fun _ hk => hk.2) (.slice Ao45 t637.length co45)) (fun _ hk => hk.2) (.slice Ao46 t640.length co46)) (fun _ h_ => h_.1))) hb); replace HO636 := Aside0.mk (Kd.R_below (by (with_reducible repeat (first | apply Kd.R_alloc | apply Kd.R_drewN | apply Kd.R_drew)); exact (Kd.R_mono (Kd.R_far (p := ⟨gb643, 2, none⟩) (Kd.R_far (p := ⟨gb643, 1, none⟩) (Kd.R_far (p := ⟨gb643, 0, none⟩) (Kd.R_types HO636.out BK643.out (by decide)) (fun _ hk => hk.2) (.slice Ao42 t634.length co42)) (fun _ hk => hk.2) (.slice Ao45 t637.length co45)) (fun _ hk => hk.2) (.slice Ao46 t640.length co46)) (fun _ h_ => h_.1))) hb); replace HO639 := Aside0.mk (Kd.R_below (by (with_reducible repeat (first | apply Kd.R_alloc | apply Kd.R_drewN | apply Kd.R_drew)); exact (Kd.R_mono (Kd.R_far (p := ⟨gb643, 2, none⟩) (Kd.R_far (p := ⟨gb643, 1, none⟩) (Kd.R_far (p := ⟨gb643, 0, none⟩) (Kd.R_types HO639.out BK643.out (by decide)) (fun _ hk => hk.2) (.slice Ao42 t634.length co42)) (fun _ hk => hk.2) (.slice Ao45 t637.length co45)) (fun _ hk => hk.2) (.slice Ao46 t640.length co46)) (fun _ h_ => h_.1))) hb); replace HO642 := Aside0.mk (Kd.R_below (by (with_reducible repeat (first | apply Kd.R_alloc | apply Kd.R_drewN | apply Kd.R_drew)); exact (Kd.R_mono (Kd.R_far (p := ⟨gb643, 2, none⟩) (Kd.R_far (p := ⟨gb643, 1, none⟩) (Kd.R_far (p := ⟨gb643, 0, none⟩) (Kd.R_types HO642.out BK643.out (by decide)) (fun _ hk => hk.2) (.slice Ao42 t634.length co42)) (fun _ hk => hk.2) (.slice Ao45 t637.length co45)) (fun _ hk => hk.2) (.slice Ao46 t640.length co46)) (fun _ h_ => h_.1))) hb); have HO646 := Aside0.mk (Kd.S_lower (Kd.S_new' ho0 (Kd.S_lt (by (with_reducible repeat (first | apply Kd.S_alloc | apply Kd.S_drewN | apply Kd.S_drew)); exact (Kd.S_mono (Kd.S_far (p := ⟨gb643, 2, none⟩) (Kd.S_far (p := ⟨gb643, 1, none⟩) (Kd.S_far (p := ⟨gb643, 0, none⟩) (Kd.S_types HO632.out BK643.out (by decide)) (fun _ hk => hk.2) (.slice Ao42 t634.length co42)) (fun _ hk => hk.2) (.slice Ao45 t637.length co45)) (fun _ hk => hk.2) (.slice Ao46 t640.length co46)) (fun _ h_ => h_.1))))) (below_size (bw HB))); replace HO632 := Aside0.mk (Kd.S_elder' (by (with_reducible repeat (first | apply Kd.S_alloc | apply Kd.S_drewN | apply Kd.S_drew)); exact (Kd.S_mono (Kd.S_far (p := ⟨gb643, 2, none⟩) (Kd.S_far (p := ⟨gb643, 1, none⟩) (Kd.S_far (p := ⟨gb643, 0, none⟩) (Kd.S_types HO632.out BK643.out (by decide)) (fun _ hk => hk.2) (.slice Ao42 t634.length co42)) (fun _ hk => hk.2) (.slice Ao45 t637.length co45)) (fun _ hk => hk.2) (.slice Ao46 t640.length co46)) (fun _ h_ => h_.1))) (Kd.S_base ho0) hb); replace BK618 := Aside0.mk (blk_below (g := gb618) (o := .cells #[.slice A0_0 l0_0.length c0_0, .slice A0_1 l0_1.length c0_1, .slice A0_2 l0_2.length c0_2] 25 (0, 0)) (bx BK618) hb); replace BK643 := Aside0.mk (blk_below (g := gb643) (o := .cells #[.slice Ao42 t634.length co42, .slice Ao45 t637.length co45, .slice Ao46 t640.length co46] 30 (0, 0)) (by (with_reducible repeat (first | refine blk_drewN ?_ _ | refine blk_drew ?_ | refine blk_alloc ?_ _)); refine blk_put (cs := #[.slice Ao42 t634.length co42, .slice Ao45 t637.length co45, .slice none 0 0]) ?_ 2 _ rfl; (with_reducible repeat (first | refine blk_drewN ?_ _ | refine blk_drew ?_ | refine blk_alloc ?_ _)); refine blk_put (cs := #[.slice Ao42 t634.length co42, .slice none 0 0, .slice none 0 0]) ?_ 1 _ rfl; (with_reducible repeat (first | refine blk_drewN ?_ _ | refine blk_drew ?_ | refine blk_alloc ?_ _)); refine blk_put (cs := #[.slice none 0 0, .slice none 0 0, .slice none 0 0]) ?_ 0 _ rfl; (with_reducible repeat (first | refine blk_drewN ?_ _ | refine blk_drew ?_ | refine blk_alloc ?_ _)); exact BK643.out) hb); replace HB := bs HB hb; (try clear hb); (try clear hb2); (try clear hk); (try clear hi); (try clear ho0); have hcz48_0 : w47.cell? ⟨gb643, 0, none⟩ = some (.slice Ao42 t634.length co42) := (blk_cell BK643.out 0).trans rfl; have hcz48_1 : w47.cell? ⟨gb643, 1, none⟩ = some (.slice Ao45 t637.length co45) := (blk_cell BK643.out 1).trans rfl; have hcz48_2 : w47.cell? ⟨gb643, 2, none⟩ = some (.slice Ao46 t640.length co46) := (blk_cell BK643.out 2).trans rfl; have hfz48_0 := blk_frozen BK643.out 0; have hfz48_1 := blk_frozen BK643.out 1; have hfz48_2 := blk_frozen BK643.out 2; obtain ⟨Ao49, co49, eo49⟩ := Kd.S_slice HO646.out; subst eo49) | ((with_reducible refine gate_callee (f := 32) rfl ?_); refine goesL_ (some 31) rfl rfl Tryd.func32 (by kernel_rfl) rfl #[.agg #[.slice Ao42 t634.length co42, .slice Ao45 t637.length co45, .slice Ao46 t640.length co46], .slice Ao49 t644.length co49] rfl (by (try simp only [List.map_toArray, List.map_cons, List.map_nil]); first | done | rfl | (simp only [List.length_drop, List.length_take]; rfl)) ?_; (with_reducible refine (impl_TableOk.calls _ _ t634 _ _ t637 _ _ t640 _ _ t644 t647 _ ?side1 ?side2 ?side3 ?side4 ?side5 ?side6 ?side7 ?side8 A19.out).mono ?_); (case side1 => repeat (first | exact (Kd.R_reads' HO636.out).2.2 | (with_reducible refine Kd.C_alloc ?_ _) | (with_reducible refine Kd.C_drewN ?_ _) | (with_reducible refine Kd.C_drew ?_))); (case side2 => exact (Kd.R_reads' HO636.out).2.1); (case side3 => repeat (first | exact (Kd.R_reads' HO639.out).2.2 | (with_reducible refine Kd.C_alloc ?_ _) | (with_reducible refine Kd.C_drewN ?_ _) | (with_reducible refine Kd.C_drew ?_))); (case side4 => exact (Kd.R_reads' HO639.out).2.1); (case side5 => repeat (first | exact (Kd.R_reads' HO642.out).2.2 | (with_reducible refine Kd.C_alloc ?_ _) | (with_reducible refine Kd.C_drewN ?_ _) | (with_reducible refine Kd.C_drew ?_))); (case side6 => exact (Kd.R_reads' HO642.out).2.1); (case side7 => repeat (first | exact (Kd.S_reads' HO646.out).2.2 | (with_reducible refine Kd.C_alloc ?_ _) | (with_reducible refine Kd.C_drewN ?_ _) | (with_reducible refine Kd.C_drew ?_))); (case side8 => exact (Kd.S_reads' HO646.out).2.1); rintro e w50 ⟨rfl, hb⟩; refine ⟨_, rfl, ?_⟩; replace HO623 := Aside0.mk (Kd.R_below (by (with_reducible repeat (first | apply Kd.R_alloc | apply Kd.R_drewN | apply Kd.R_drew)); exact HO623.out) hb); replace HO626 := Aside0.mk (Kd.R_below (by (with_reducible repeat (first | apply Kd.R_alloc | apply Kd.R_drewN | apply Kd.R_drew)); exact HO626.out) hb); replace HO629 := Aside0.mk (Kd.R_below (by (with_reducible repeat (first | apply Kd.R_alloc | apply Kd.R_drewN | apply Kd.R_drew)); exact HO629.out) hb); replace HO632 := Aside0.mk (Kd.S_below (by (with_reducible repeat (first | apply Kd.S_alloc | apply Kd.S_drewN | apply Kd.S_drew)); exact HO632.out) hb); replace HO636 := Aside0.mk (Kd.R_below (by (with_reducible repeat (first | apply Kd.R_alloc | apply Kd.R_drewN | apply Kd.R_drew)); exact HO636.out) hb); replace HO639 := Aside0.mk (Kd.R_below (by (with_reducible repeat (first | apply Kd.R_alloc | apply Kd.R_drewN | apply Kd.R_drew)); exact HO639.out) hb); replace HO642 := Aside0.mk (Kd.R_below (by (with_reducible repeat (first | apply Kd.R_alloc | apply Kd.R_drewN | apply Kd.R_drew)); exact HO642.out) hb); replace HO646 := Aside0.mk (Kd.S_below (by (with_reducible repeat (first | apply Kd.S_alloc | apply Kd.S_drewN | apply Kd.S_drew)); exact HO646.out) hb); replace BK618 := bb BK618 hb; replace BK643 := bb BK643 hb; replace HB := bs HB hb; (try clear hb); (try clear hb2); (try clear hk); (try clear hi)))
      have n0_ := Aside0.mk (Kd.R_drew HO623.out)
      have n1_ := Aside0.mk (Kd.R_drew HO626.out)
      have n2_ := Aside0.mk (Kd.R_drew HO629.out)
      have n3_ := Aside0.mk (Kd.S_drew HO632.out)
      have n4_ := Aside0.mk (Kd.R_drew HO636.out)
      have n5_ := Aside0.mk (Kd.R_drew HO639.out)
      have n6_ := Aside0.mk (Kd.R_drew HO642.out)
      have n7_ := Aside0.mk (Kd.S_drew HO646.out)
      have n8_ := Aside0.mk (blk_drew BK618.out)
      have n9_ := Aside0.mk (blk_drew BK643.out)
      have n10_ := Aside0.mk (below_drew1 HB.out)
      clear HO623
      clear HO626
      clear HO629
      clear HO632
      clear HO636
      clear HO639
      clear HO642
      clear HO646
      clear BK618
      clear BK643
      clear HB
      have HO623 := n0_
      have HO626 := n1_
      have HO629 := n2_
      have HO632 := n3_
      have HO636 := n4_
      have HO639 := n5_
      have HO642 := n6_
      have HO646 := n7_
      have BK618 := n8_
      have BK643 := n9_
      have HB := n10_
      clear n0_ n1_ n2_ n3_ n4_ n5_ n6_ n7_ n8_ n9_ n10_
      refine start_ (n := 5) (S := fun w' => w'.cell? ⟨gb643, 0, none⟩ = some (.slice Ao42 t634.length co42) ∧ w'.cell? ⟨gb643, 1, none⟩ = some (.slice Ao45 t637.length co45) ∧ w'.cell? ⟨gb643, 2, none⟩ = some (.slice Ao46 t640.length co46) ∧ w'.cell? ⟨gb618, 0, none⟩ = some (.slice A0_0 l0_0.length c0_0) ∧ w'.cell? ⟨gb618, 1, none⟩ = some (.slice A0_1 l0_1.length c0_1) ∧ w'.cell? ⟨gb618, 2, none⟩ = some (.slice A0_2 l0_2.length c0_2)) (ds := []) #[false, false, false, false, false] (by kernel_rfl) rfl rfl ⟨(blk_cell BK643.out 0).trans rfl, (blk_cell BK643.out 1).trans rfl, (blk_cell BK643.out 2).trans rfl, (blk_cell BK618.out 0).trans rfl, (blk_cell BK618.out 1).trans rfl, (blk_cell BK618.out 2).trans rfl⟩ (fun hHeld => ?_)
      generalize w50.drew = w51 at HO623 HO626 HO629 HO632 HO636 HO639 HO642 HO646 BK618 BK643 HB hHeld ⊢
      refine take_ (i := 0) (N := some 35) (v := ?_) (a' := ?_) #[true, false, false, false, false] rfl rfl (by kernel_rfl) (fun _ _ _ h => h) (Or.inl ⟨by rfl, ?_⟩) hHeld ?_ ?_
      rotate_left
      ·rintro w' ⟨s0, s1, s2, s3, s4, s5⟩
       go_simp
       with_reducible rfl
      rotate_left
      ·simp only [Act.put, List.setIfInBounds_toArray, List.set_cons_zero, List.set_cons_succ, i64_w, i32_w]
       rfl
      refine take_ (i := 1) (N := some 36) (v := ?_) (a' := ?_) #[true, true, false, false, false] rfl rfl (by kernel_rfl) (fun _ _ _ h => h) (Or.inl ⟨by rfl, ?_⟩) hHeld ?_ ?_
      rotate_left
      ·rintro w' ⟨s0, s1, s2, s3, s4, s5⟩
       go_simp
       with_reducible rfl
      rotate_left
      ·simp only [Act.put, List.setIfInBounds_toArray, List.set_cons_zero, List.set_cons_succ, i64_w, i32_w]
       rfl
      refine one_ (i := 2) (N := some 37) #[true, true, true, false, false] rfl rfl (by kernel_rfl) (by decide) (fun K hK => ?_)
      refine goes_ Tryd.func14 (by kernel_rfl) rfl #[.agg #[.slice A0_0 l0_0.length c0_0, .slice A0_1 l0_1.length c0_1, .slice A0_2 l0_2.length c0_2]] (by rfl) rfl rfl (by (try simp only [List.map_toArray, List.map_cons, List.map_nil]); first | done | rfl | (simp only [List.length_drop, List.length_take]; rfl)) ?_
      with_reducible refine (laws_toDecl.calls k _ _ l0_0 _ _ l0_1 _ _ l0_2 t648 t651 t654 _ ?side1 ?side2 ?side3 ?side4 ?side5 ?side6 A21.out).mono ?_
      (case side1 => repeat (first | exact (Kd.C_below HR0_0.out HB.out) | (with_reducible refine Kd.C_alloc ?_ _) | (with_reducible refine Kd.C_drewN ?_ _) | (with_reducible refine Kd.C_drew ?_)))
      (case side2 => exact HC0_0.out)
      (case side3 => repeat (first | exact (Kd.C_below HR0_1.out HB.out) | (with_reducible refine Kd.C_alloc ?_ _) | (with_reducible refine Kd.C_drewN ?_ _) | (with_reducible refine Kd.C_drew ?_)))
      (case side4 => exact HC0_1.out)
      (case side5 => repeat (first | exact (Kd.C_below HR0_2.out HB.out) | (with_reducible refine Kd.C_alloc ?_ _) | (with_reducible refine Kd.C_drewN ?_ _) | (with_reducible refine Kd.C_drew ?_)))
      (case side6 => exact HC0_2.out)
      rintro e w52 ⟨v649, v652, v655, rfl, ho0, ho1, ho2, hb⟩
      refine ⟨_, rfl, ?_⟩
      have n0_ := Aside0.mk (Kd.R_mono (Kd.R_told (Kd.R_told (Kd.R_old (by (with_reducible repeat (first | apply Kd.R_alloc | apply Kd.R_drewN | apply Kd.R_drew)); exact HO623.out) hb) (Kd.R_base ho0)) (Kd.R_base ho1)) (fun _ h_ => h_.1))
      have n1_ := Aside0.mk (Kd.R_mono (Kd.R_told (Kd.R_told (Kd.R_old (by (with_reducible repeat (first | apply Kd.R_alloc | apply Kd.R_drewN | apply Kd.R_drew)); exact HO626.out) hb) (Kd.R_base ho0)) (Kd.R_base ho1)) (fun _ h_ => h_.1))
      have n2_ := Aside0.mk (Kd.R_elder' (by (with_reducible repeat (first | apply Kd.R_alloc | apply Kd.R_drewN | apply Kd.R_drew)); exact HO629.out) (Kd.R_base ho2) hb)
      have n3_ := Aside0.mk (Kd.S_below (by (with_reducible repeat (first | apply Kd.S_alloc | apply Kd.S_drewN | apply Kd.S_drew)); exact HO632.out) hb)
      have n4_ := Aside0.mk (Kd.R_mono (Kd.R_told (Kd.R_told (Kd.R_old (by (with_reducible repeat (first | apply Kd.R_alloc | apply Kd.R_drewN | apply Kd.R_drew)); exact HO636.out) hb) (Kd.R_base ho0)) (Kd.R_base ho1)) (fun _ h_ => h_.1))
      have n5_ := Aside0.mk (Kd.R_mono (Kd.R_told (Kd.R_told (Kd.R_old (by (with_reducible repeat (first | apply Kd.R_alloc | apply Kd.R_drewN | apply Kd.R_drew)); exact HO639.out) hb) (Kd.R_base ho0)) (Kd.R_base ho1)) (fun _ h_ => h_.1))
      have n6_ := Aside0.mk (Kd.R_elder' (by (with_reducible repeat (first | apply Kd.R_alloc | apply Kd.R_drewN | apply Kd.R_drew)); exact HO642.out) (Kd.R_base ho2) hb)
      have n7_ := Aside0.mk (Kd.S_below (by (with_reducible repeat (first | apply Kd.S_alloc | apply Kd.S_drewN | apply Kd.S_drew)); exact HO646.out) hb)
      have n8_ := Aside0.mk (Kd.R_lower (Kd.R_new' (Kd.R_new' (Kd.R_new' (Kd.R_new' ho0 (Kd.R_lt (by (with_reducible repeat (first | apply Kd.R_alloc | apply Kd.R_drewN | apply Kd.R_drew)); exact HO623.out))) (Kd.R_lt (by (with_reducible repeat (first | apply Kd.R_alloc | apply Kd.R_drewN | apply Kd.R_drew)); exact HO626.out))) (Kd.R_lt (by (with_reducible repeat (first | apply Kd.R_alloc | apply Kd.R_drewN | apply Kd.R_drew)); exact HO636.out))) (Kd.R_lt (by (with_reducible repeat (first | apply Kd.R_alloc | apply Kd.R_drewN | apply Kd.R_drew)); exact HO639.out))) (below_size (bw HB)))
      have n9_ := Aside0.mk (Kd.R_lower (Kd.R_new' (Kd.R_new' (Kd.R_new' (Kd.R_new' ho1 (Kd.R_lt (by (with_reducible repeat (first | apply Kd.R_alloc | apply Kd.R_drewN | apply Kd.R_drew)); exact HO623.out))) (Kd.R_lt (by (with_reducible repeat (first | apply Kd.R_alloc | apply Kd.R_drewN | apply Kd.R_drew)); exact HO626.out))) (Kd.R_lt (by (with_reducible repeat (first | apply Kd.R_alloc | apply Kd.R_drewN | apply Kd.R_drew)); exact HO636.out))) (Kd.R_lt (by (with_reducible repeat (first | apply Kd.R_alloc | apply Kd.R_drewN | apply Kd.R_drew)); exact HO639.out))) (below_size (bw HB)))
      have n10_ := Aside0.mk (Kd.R_lower (Kd.R_new' (Kd.R_new' ho2 (Kd.R_lt (by (with_reducible repeat (first | apply Kd.R_alloc | apply Kd.R_drewN | apply Kd.R_drew)); exact HO629.out))) (Kd.R_lt (by (with_reducible repeat (first | apply Kd.R_alloc | apply Kd.R_drewN | apply Kd.R_drew)); exact HO642.out))) (below_size (bw HB)))
      have n11_ := bb BK618 hb
      have n12_ := bb BK643 hb
      have n13_ := bs HB hb
      clear HO623
      clear HO626
      clear HO629
      clear HO632
      clear HO636
      clear HO639
      clear HO642
      clear HO646
      clear BK618
      clear BK643
      clear HB
      have HO623 := n0_
      have HO626 := n1_
      have HO629 := n2_
      have HO632 := n3_
      have HO636 := n4_
      have HO639 := n5_
      have HO642 := n6_
      have HO646 := n7_
      have HO650 := n8_
      have HO653 := n9_
      have HO656 := n10_
      have BK618 := n11_
      have BK643 := n12_
      have HB := n13_
      clear n0_ n1_ n2_ n3_ n4_ n5_ n6_ n7_ n8_ n9_ n10_ n11_ n12_ n13_
      (try clear hb)
      (try clear hb2)
      (try clear hk)
      (try clear hi)
      (try clear ho0)
      (try clear ho1)
      (try clear ho2)
      obtain ⟨Ao53, co53, eo53⟩ := Kd.R_slice HO650.out
      (first | subst eo53 | (injection eo53 with f1_ f2_ f3_; have f4_ := f1_.symm; have f5_ := f3_.symm; clear f1_ f2_ f3_; subst f4_; subst f5_))
      obtain ⟨Ao54, co54, eo54⟩ := Kd.R_slice HO653.out
      (first | subst eo54 | (injection eo54 with f1_ f2_ f3_; have f4_ := f1_.symm; have f5_ := f3_.symm; clear f1_ f2_ f3_; subst f4_; subst f5_))
      obtain ⟨Ao55, co55, eo55⟩ := Kd.R_slice HO656.out
      (first | subst eo55 | (injection eo55 with f1_ f2_ f3_; have f4_ := f1_.symm; have f5_ := f3_.symm; clear f1_ f2_ f3_; subst f4_; subst f5_))
      refine hK.out _ _ ⟨(blk_cell BK643.out 0).trans rfl, (blk_cell BK643.out 1).trans rfl, (blk_cell BK643.out 2).trans rfl, (blk_cell BK618.out 0).trans rfl, (blk_cell BK618.out 1).trans rfl, (blk_cell BK618.out 2).trans rfl⟩ (fun hHeld => ?_)
      clear hK K
      refine norm_ (a' := ?_) ?_ ?_
      rotate_left
      ·show Act.put _ (some 37) _ = _
       simp only [Act.put, List.setIfInBounds_toArray, List.set_cons_zero, List.set_cons_succ, i64_w, i32_w]
       rfl
      refine one_ (i := 3) (N := some 38) #[true, true, true, true, false] rfl rfl (by kernel_rfl) (by decide) (fun K hK => ?_)
      refine goes_ Tryd.func16 (by kernel_rfl) rfl #[.agg #[.slice Ao42 t634.length co42, .slice Ao45 t637.length co45, .slice Ao46 t640.length co46], .agg #[.slice Ao53 t648.length co53, .slice Ao54 t651.length co54, .slice Ao55 t654.length co55]] (by rfl) rfl rfl (by (try simp only [List.map_toArray, List.map_cons, List.map_nil]); first | done | rfl | (simp only [List.length_drop, List.length_take]; rfl)) ?_
      with_reducible refine (laws_eqDecl.calls k _ _ t634 _ _ t637 _ _ t640 _ _ t648 _ _ t651 _ _ t654 true _ ?side1 ?side2 ?side3 ?side4 ?side5 ?side6 ?side7 ?side8 ?side9 ?side10 ?side11 ?side12 A22.out).mono ?_
      (case side1 => repeat (first | exact (Kd.R_reads' HO636.out).2.2 | (with_reducible refine Kd.C_alloc ?_ _) | (with_reducible refine Kd.C_drewN ?_ _) | (with_reducible refine Kd.C_drew ?_)))
      (case side2 => exact (Kd.R_reads' HO636.out).2.1)
      (case side3 => repeat (first | exact (Kd.R_reads' HO639.out).2.2 | (with_reducible refine Kd.C_alloc ?_ _) | (with_reducible refine Kd.C_drewN ?_ _) | (with_reducible refine Kd.C_drew ?_)))
      (case side4 => exact (Kd.R_reads' HO639.out).2.1)
      (case side5 => repeat (first | exact (Kd.R_reads' HO642.out).2.2 | (with_reducible refine Kd.C_alloc ?_ _) | (with_reducible refine Kd.C_drewN ?_ _) | (with_reducible refine Kd.C_drew ?_)))
      (case side6 => exact (Kd.R_reads' HO642.out).2.1)
      (case side7 => repeat (first | exact (Kd.R_reads' HO650.out).2.2 | (with_reducible refine Kd.C_alloc ?_ _) | (with_reducible refine Kd.C_drewN ?_ _) | (with_reducible refine Kd.C_drew ?_)))
      (case side8 => exact (Kd.R_reads' HO650.out).2.1)
      (case side9 => repeat (first | exact (Kd.R_reads' HO653.out).2.2 | (with_reducible refine Kd.C_alloc ?_ _) | (with_reducible refine Kd.C_drewN ?_ _) | (with_reducible refine Kd.C_drew ?_)))
      (case side10 => exact (Kd.R_reads' HO653.out).2.1)
      (case side11 => repeat (first | exact (Kd.R_reads' HO656.out).2.2 | (with_reducible refine Kd.C_alloc ?_ _) | (with_reducible refine Kd.C_drewN ?_ _) | (with_reducible refine Kd.C_drew ?_)))
      (case side12 => exact (Kd.R_reads' HO656.out).2.1)
      rintro e w56 ⟨rfl, hb⟩
      refine ⟨_, rfl, ?_⟩
      have n0_ := Aside0.mk (Kd.R_below (by (with_reducible repeat (first | apply Kd.R_alloc | apply Kd.R_drewN | apply Kd.R_drew)); exact HO623.out) hb)
      have n1_ := Aside0.mk (Kd.R_below (by (with_reducible repeat (first | apply Kd.R_alloc | apply Kd.R_drewN | apply Kd.R_drew)); exact HO626.out) hb)
      have n2_ := Aside0.mk (Kd.R_below (by (with_reducible repeat (first | apply Kd.R_alloc | apply Kd.R_drewN | apply Kd.R_drew)); exact HO629.out) hb)
      have n3_ := Aside0.mk (Kd.S_below (by (with_reducible repeat (first | apply Kd.S_alloc | apply Kd.S_drewN | apply Kd.S_drew)); exact HO632.out) hb)
      have n4_ := Aside0.mk (Kd.R_below (by (with_reducible repeat (first | apply Kd.R_alloc | apply Kd.R_drewN | apply Kd.R_drew)); exact HO636.out) hb)
      have n5_ := Aside0.mk (Kd.R_below (by (with_reducible repeat (first | apply Kd.R_alloc | apply Kd.R_drewN | apply Kd.R_drew)); exact HO639.out) hb)
      have n6_ := Aside0.mk (Kd.R_below (by (with_reducible repeat (first | apply Kd.R_alloc | apply Kd.R_drewN | apply Kd.R_drew)); exact HO642.out) hb)
      have n7_ := Aside0.mk (Kd.S_below (by (with_reducible repeat (first | apply Kd.S_alloc | apply Kd.S_drewN | apply Kd.S_drew)); exact HO646.out) hb)
      have n8_ := Aside0.mk (Kd.R_below (by (with_reducible repeat (first | apply Kd.R_alloc | apply Kd.R_drewN | apply Kd.R_drew)); exact HO650.out) hb)
      have n9_ := Aside0.mk (Kd.R_below (by (with_reducible repeat (first | apply Kd.R_alloc | apply Kd.R_drewN | apply Kd.R_drew)); exact HO653.out) hb)
      have n10_ := Aside0.mk (Kd.R_below (by (with_reducible repeat (first | apply Kd.R_alloc | apply Kd.R_drewN | apply Kd.R_drew)); exact HO656.out) hb)
      have n11_ := bb BK618 hb
      have n12_ := bb BK643 hb
      have n13_ := bs HB hb
      clear HO623
      clear HO626
      clear HO629
      clear HO632
      clear HO636
      clear HO639
      clear HO642
      clear HO646
      clear HO650
      clear HO653
      clear HO656
      clear BK618
      clear BK643
      clear HB
      have HO623 := n0_
      have HO626 := n1_
      have HO629 := n2_
      have HO632 := n3_
      have HO636 := n4_
      have HO639 := n5_
      have HO642 := n6_
      have HO646 := n7_
      have HO650 := n8_
      have HO653 := n9_
      have HO656 := n10_
      have BK618 := n11_
      have BK643 := n12_
      have HB := n13_
      clear n0_ n1_ n2_ n3_ n4_ n5_ n6_ n7_ n8_ n9_ n10_ n11_ n12_ n13_
      (try clear hb)
      (try clear hb2)
      (try clear hk)
      (try clear hi)
      refine hK.out _ _ ⟨(blk_cell BK643.out 0).trans rfl, (blk_cell BK643.out 1).trans rfl, (blk_cell BK643.out 2).trans rfl, (blk_cell BK618.out 0).trans rfl, (blk_cell BK618.out 1).trans rfl, (blk_cell BK618.out 2).trans rfl⟩ (fun hHeld => ?_)
      clear hK K
      refine norm_ (a' := ?_) ?_ ?_
      rotate_left
      ·show Act.put _ (some 38) _ = _
       simp only [Act.put, List.setIfInBounds_toArray, List.set_cons_zero, List.set_cons_succ, i64_w, i32_w]
       rfl
      refine pure_ (i := 4) (N := some 39) (v := ?_) (a' := ?_) #[true, true, true, true, true] rfl rfl (by kernel_rfl) (fun _ _ _ h => h) (Or.inl ⟨by rfl, ?_⟩) ?_ ?_
      rotate_left
      ·intro w'
       go_simp
       with_reducible rfl
      rotate_left
      ·simp only [Act.put, List.setIfInBounds_toArray, List.set_cons_zero, List.set_cons_succ, i64_w, i32_w]
       rfl
      refine done_ (by kernel_rfl) ?_
      try go_wp2_with (first | ((with_reducible refine gate_callee (f := 31) rfl ?_); refine goesL_ (some 42) rfl rfl Tryd.func31 (by kernel_rfl) rfl #[.slice A1 l1.length c1] rfl (by (try simp only [List.map_toArray, List.map_cons, List.map_nil]); first | done | rfl | (simp only [List.length_drop, List.length_take]; rfl)) ?_; (with_reducible refine (laws_toEnvS.calls k _ _ l1 t658 _ ?side1 ?side2 A24.out).mono ?_); (case side1 => repeat (first | exact (Kd.C_below HR1.out HB.out) | (with_reducible refine Kd.C_alloc ?_ _) | (with_reducible refine Kd.C_drewN ?_ _) | (with_reducible refine Kd.C_drew ?_))); (case side2 => exact HC1.out); rintro e w57 ⟨v659, rfl, ho0, hb⟩; refine ⟨_, rfl, ?_⟩; replace HO623 := Aside0.mk (Kd.R_below (by (with_reducible repeat (first | apply Kd.R_alloc | apply Kd.R_drewN | apply Kd.R_drew)); exact HO623.out) hb); replace HO626 := Aside0.mk (Kd.R_below (by (with_reducible repeat (first | apply Kd.R_alloc | apply Kd.R_drewN | apply Kd.R_drew)); exact HO626.out) hb); replace HO629 := Aside0.mk (Kd.R_below (by (with_reducible repeat (first | apply Kd.R_alloc | apply Kd.R_drewN | apply Kd.R_drew)); exact HO629.out) hb); replace HO636 := Aside0.mk (Kd.R_below (by (with_reducible repeat (first | apply Kd.R_alloc | apply Kd.R_drewN | apply Kd.R_drew)); exact HO636.out) hb); replace HO639 := Aside0.mk (Kd.R_below (by (with_reducible repeat (first | apply Kd.R_alloc | apply Kd.R_drewN | apply Kd.R_drew)); exact HO639.out) hb); replace HO642 := Aside0.mk (Kd.R_below (by (with_reducible repeat (first | apply Kd.R_alloc | apply Kd.R_drewN | apply Kd.R_drew)); exact HO642.out) hb); replace HO650 := Aside0.mk (Kd.R_below (by (with_reducible repeat (first | apply Kd.R_alloc | apply Kd.R_drewN | apply Kd.R_drew)); exact HO650.out) hb); replace HO653 := Aside0.mk (Kd.R_below (by (with_reducible repeat (first | apply Kd.R_alloc | apply Kd.R_drewN | apply Kd.R_drew)); exact HO653.out) hb); replace HO656 := Aside0.mk (Kd.R_below (by (with_reducible repeat (first | apply Kd.R_alloc | apply Kd.R_drewN | apply Kd.R_drew)); exact HO656.out) hb); have HO660 := Aside0.mk (Kd.S_lower (Kd.S_new' (Kd.S_new' ho0 (Kd.S_lt (by (with_reducible repeat (first | apply Kd.S_alloc | apply Kd.S_drewN | apply Kd.S_drew)); exact HO632.out))) (Kd.S_lt (by (with_reducible repeat (first | apply Kd.S_alloc | apply Kd.S_drewN | apply Kd.S_drew)); exact HO646.out))) (below_size (bw HB))); replace HO632 := Aside0.mk (Kd.S_elder' (by (with_reducible repeat (first | apply Kd.S_alloc | apply Kd.S_drewN | apply Kd.S_drew)); exact HO632.out) (Kd.S_base ho0) hb); replace HO646 := Aside0.mk (Kd.S_elder' (by (with_reducible repeat (first | apply Kd.S_alloc | apply Kd.S_drewN | apply Kd.S_drew)); exact HO646.out) (Kd.S_base ho0) hb); replace BK618 := bb BK618 hb; replace BK643 := bb BK643 hb; replace HB := bs HB hb; (try clear hb); (try clear hb2); (try clear hk); (try clear hi); (try clear ho0); obtain ⟨Ao58, co58, eo58⟩ := Kd.S_slice HO660.out; subst eo58) | ((with_reducible refine gate_callee (f := 33) rfl ?_); refine goesL_ (some 43) rfl rfl Tryd.func33 (by kernel_rfl) rfl #[.slice Ao49 t644.length co49, .slice Ao58 t658.length co58] rfl (by (try simp only [List.map_toArray, List.map_cons, List.map_nil]); first | done | rfl | (simp only [List.length_drop, List.length_take]; rfl)) ?_; (with_reducible refine (laws_eqEnvS.calls k _ _ t644 _ _ t658 true _ ?side1 ?side2 ?side3 ?side4 A25.out).mono ?_); (case side1 => repeat (first | exact (Kd.S_reads' HO646.out).2.2 | (with_reducible refine Kd.C_alloc ?_ _) | (with_reducible refine Kd.C_drewN ?_ _) | (with_reducible refine Kd.C_drew ?_))); (case side2 => exact (Kd.S_reads' HO646.out).2.1); (case side3 => repeat (first | exact (Kd.S_reads' HO660.out).2.2 | (with_reducible refine Kd.C_alloc ?_ _) | (with_reducible refine Kd.C_drewN ?_ _) | (with_reducible refine Kd.C_drew ?_))); (case side4 => exact (Kd.S_reads' HO660.out).2.1); rintro e w59 ⟨rfl, hb⟩; refine ⟨_, rfl, ?_⟩; replace HO623 := Aside0.mk (Kd.R_below (by (with_reducible repeat (first | apply Kd.R_alloc | apply Kd.R_drewN | apply Kd.R_drew)); exact HO623.out) hb); replace HO626 := Aside0.mk (Kd.R_below (by (with_reducible repeat (first | apply Kd.R_alloc | apply Kd.R_drewN | apply Kd.R_drew)); exact HO626.out) hb); replace HO629 := Aside0.mk (Kd.R_below (by (with_reducible repeat (first | apply Kd.R_alloc | apply Kd.R_drewN | apply Kd.R_drew)); exact HO629.out) hb); replace HO632 := Aside0.mk (Kd.S_below (by (with_reducible repeat (first | apply Kd.S_alloc | apply Kd.S_drewN | apply Kd.S_drew)); exact HO632.out) hb); replace HO636 := Aside0.mk (Kd.R_below (by (with_reducible repeat (first | apply Kd.R_alloc | apply Kd.R_drewN | apply Kd.R_drew)); exact HO636.out) hb); replace HO639 := Aside0.mk (Kd.R_below (by (with_reducible repeat (first | apply Kd.R_alloc | apply Kd.R_drewN | apply Kd.R_drew)); exact HO639.out) hb); replace HO642 := Aside0.mk (Kd.R_below (by (with_reducible repeat (first | apply Kd.R_alloc | apply Kd.R_drewN | apply Kd.R_drew)); exact HO642.out) hb); replace HO646 := Aside0.mk (Kd.S_below (by (with_reducible repeat (first | apply Kd.S_alloc | apply Kd.S_drewN | apply Kd.S_drew)); exact HO646.out) hb); replace HO650 := Aside0.mk (Kd.R_below (by (with_reducible repeat (first | apply Kd.R_alloc | apply Kd.R_drewN | apply Kd.R_drew)); exact HO650.out) hb); replace HO653 := Aside0.mk (Kd.R_below (by (with_reducible repeat (first | apply Kd.R_alloc | apply Kd.R_drewN | apply Kd.R_drew)); exact HO653.out) hb); replace HO656 := Aside0.mk (Kd.R_below (by (with_reducible repeat (first | apply Kd.R_alloc | apply Kd.R_drewN | apply Kd.R_drew)); exact HO656.out) hb); replace HO660 := Aside0.mk (Kd.S_below (by (with_reducible repeat (first | apply Kd.S_alloc | apply Kd.S_drewN | apply Kd.S_drew)); exact HO660.out) hb); replace BK618 := bb BK618 hb; replace BK643 := bb BK643 hb; replace HB := bs HB hb; (try clear hb); (try clear hb2); (try clear hk); (try clear hi)))
      go_ret
      exact ⟨by first | rfl | exact congrArg (fun b_ => Ending.returned (Value.bool b_)) HE_.out | (refine absurd HE_.out ?_; simp [*]; done) | (have h_ := HE_.out; clear HE_; simp_all; done) | (have h_ := HE_.out; clear HE_; simp_all; omega) | (simp [errW_none, errW_some] <;> rfl) | (simp [*, errW_none, errW_some] <;> rfl), bw HB⟩
     ·replace c26 := Bool.eq_false_iff.mpr c26
      subst c26
      have H1 : (some false) = some true := by rw [if_neg (show ¬ (false = true) by decide)] at H; first | done | exact H
      clear H
      have H := H1
      clear H1
      exact absurd (Option.some.inj H) (by decide)
    ·replace c23 := Bool.eq_false_iff.mpr c23
     subst c23
     have H1 : (some false) = some true := by rw [if_neg (show ¬ (false = true) by decide)] at H; first | done | exact H
     clear H
     have H := H1
     clear H1
     exact absurd (Option.some.inj H) (by decide)

end Go.Proofs.YtcomagipdbdglaaDoor.Q
